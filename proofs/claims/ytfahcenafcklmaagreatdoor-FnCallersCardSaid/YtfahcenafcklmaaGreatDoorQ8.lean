/- Part 8 of proofs that are told in their last texts. -/
import Derived.Test.YtfahcenafcklmaaGreatDoorQ7
import Derived.Test.YtfahcenafcklmaaGreatDoorQ2
import Derived.Test.YtfahcenafcklmaaGreatDoorQ5
import Derived.Test.YtfahcenafcklmaaGreatDoorQ6
import Derived.Test.YtfahcenafcklmaaGreatDoorQ3
import Derived.Test.YtfahcenafcklmaaGreatDoorQ1
import Derived.Lib.SlicesCompact
import Derived.Lib.OwnBridge
import Derived.Lib.AppendIntMem
open List (cons_append ext_getElem? getElem?_eq_none getElem?_of_mem getElem?_zipWith length_cons length_nil length_set length_singleton mem_singleton nil_append not_mem_nil set_cons_zero zipWith_cons_cons)
set_option linter.unusedVariables false
set_option linter.unusedSimpArgs false
set_option maxRecDepth 100000
set_option maxHeartbeats 2000000
namespace Go
theorem zaY {A:Prop} (s:A:=by exact GW.PJ (fn:=f95) rfl rfl (by simp) rfl rfl rfl rfl (fun _ _ h=>by repeat (first | exact h | refine mr ?_ | refine mq ?_))):A:=s
end Go
namespace Go.Xg
open Go.RowKit Go.Xw Go.Proofs Tryz Go.Im
open Go.Xp (Tok T aQ aB eD)
open Go.Sp (Src)
attribute [local irreducible] GW GL GO YG GC GA aU aW
theorem Wp:Wr 80 119 ed iG :=
 ⟨fun a I G h3=>Zw _ a (aI _) I G h3,fun l d I G h3=>Vh l d I G,fun l d s h=>Vi h⟩
theorem IB (p:Src) (h:p.nodes.length > 800):GF prog 62 [.agg (aq p)] [] (.v (.bool false)) []:=by
 have hm:(p.nodes.map aV).length=p.nodes.length:=by simp
 have hd:decide ((800:Int) < ((p.nodes.map aV).length:Int))=true:=by rw [hm];simpa using by omega
 refine ai func62 ntmps62 ?_;exact al
theorem Ft (p:Src) (h:p.nodes.length<=800) (hk:∀ n∈p.nodes,n.kids.length<=1099511627776) (hf:p.fns.length<=1099511627776) (hb:jX p.nodes p.fns 0 []=none):GF prog 62 [.agg (aq p)] [] (.v (.bool false)) []:=by
 have hm:(p.nodes.map aV).length=p.nodes.length:=by simp
 have hd:decide ((800:Int) < ((p.nodes.map aV).length:Int))=false:=by rw [hm];simpa using by omega
 have hB:=zA p X hk hf;rw [hb] at hB;unfold FF at hB;refine ai func62 ntmps62 ?_;refine V [] hB ?_;exact al
theorem LF (p:Src) (l:List T) (e:Nat) (h:p.nodes.length<=800) (hk:∀ n∈p.nodes,n.kids.length<=1099511627776) (hf:p.fns.length<=1099511627776) (hb:jX p.nodes p.fns 0 []=some (l,e)) (he:e≠p.nodes.length):GF prog 62 [.agg (aq p)] [] (.v (.bool false)) []:=by
 have hm:(p.nodes.map aV).length=p.nodes.length:=by simp
 have hd:decide ((800:Int) < ((p.nodes.map aV).length:Int))=false:=by rw [hm];simpa using by omega
 have hB:=zA p X hk hf;rw [hb] at hB;unfold FF at hB;simp only at hB;rw [show ((e:Int)==(p.nodes.length:Int))=false by simp only [beq_eq_false_iff_ne,ne_eq];omega] at hB;refine ai func62 ntmps62 ?_;refine V [] hB ?_;exact al
theorem IA (p:Src) (l:List T) (h:p.nodes.length<=800) (hk:∀ n∈p.nodes,n.kids.length<=1099511627776) (hf:p.fns.length<=1099511627776) (hb:jX p.nodes p.fns 0 []=some (l,p.nodes.length)) (hl:l.length<=1099511627776) (hs:∀ t∈l,aQ t<=1099511627776) (hn:l.all j0=false):GF prog 62 [.agg (aq p)] [] (.v (.bool false)) []:=by
 have hm:(p.nodes.map aV).length=p.nodes.length:=by simp
 have hd:decide ((800:Int) < ((p.nodes.map aV).length:Int))=false:=by rw [hm];simpa using by omega
 have hB:=zA p X hk hf;rw [hb] at hB;unfold FF at hB;simp only at hB;rw [show ((p.nodes.length:Int)==(p.nodes.length:Int))=true by simp] at hB;have hC:=ym l hl hs;rw [hn] at hC;refine ai func62 ntmps62 ?_;refine V [] hB ?_;exact zfx
theorem Tl (st:PS) (h:st.fns.length=st.trees.length):qI st.fns st.trees st.trees.length=(sj st).map aw:=by
 unfold qI sj;apply ext_getElem?;intro i;rw [bp,List.getElem?_mapIdx,List.getElem?_mapIdx]
 cases hx:st.fns[i]? with
 | none=>rfl
 | some x =>
  have hi:=(bB hx).1;simp only [Option.map_some];rw [ah X];rfl
def XK (st:PS):Src:=⟨st.globals,st.arrays,sj st,eD 0 st.trees⟩
theorem aa6 {q:Go.Sp.RS} {st:PS} (hc:q.code=0) (h8:¬ aB st.trees > 800) (h:st.fns.length=st.trees.length):NS q st=.tup [.agg (aq (XK st)),.v (ii 0),.v (ii 0)]:=by
 unfold NS;rw [ah hc,ab h8,Tl st h];rfl
theorem LG (p:Src) (l:List T) (x:ae) (ts:List Tok) (c z:Int) (h:p.nodes.length<=800) (hB:GF prog 87 [.agg (aq p)] [] (.tup [.sl 1 (dp l),.v (.bool true)]) [])
  (hC:GF prog 116 [.sl 1 (dp l),.v (.func (.func 117) #[] #[])] [] (.v (.bool false)) [])
  (hL:GF prog 88 [.agg (aq p),.sl 1 (dp l),.v (lu 80),.v (lu 119)] [] (.v (sv x)) [])
  (hX:GF prog 120 [.v (sv x)] [] (.tup [iU ts,.v (ii c),.v (ii z)]) []) (hc:(c != 0)=true) :
  GF prog 62 [.agg (aq p)] [] (.v (.bool false)) []:=by
 have hm:(p.nodes.map aV).length=p.nodes.length:=by simp
 have hd:decide ((800:Int) < ((p.nodes.map aV).length:Int))=false:=by rw [hm];simpa using by omega
 refine ai func62 ntmps62 ?_;refine V [] hB ?_;refine V [] hC ?_;refine V [] hL ?_;refine V [] hX ?_;exact al
theorem CL (p:Src) (l:List T) (x:ae) (ts:List Tok) (c k a:Int) (h:p.nodes.length<=800) (hB:GF prog 87 [.agg (aq p)] [] (.tup [.sl 1 (dp l),.v (.bool true)]) [])
  (hC:GF prog 116 [.sl 1 (dp l),.v (.func (.func 117) #[] #[])] [] (.v (.bool false)) [])
  (hL:GF prog 88 [.agg (aq p),.sl 1 (dp l),.v (lu 80),.v (lu 119)] [] (.v (sv x)) [])
  (hX:GF prog 120 [.v (sv x)] [] (.tup [iU ts,.v (ii 0),.v (ii c)]) [])
  (hP:GF prog 86 [iU ts,.v (ii (x.length:Int))] [] (.tup [.agg [.sl 1 [],.sl 2 [],.sl 3 [],.sl 5 []],.v (ii k),.v (ii a)]) []) (hk:(k==0)=false) :
  GF prog 62 [.agg (aq p)] [] (.v (.bool false)) []:=by
 have hm:(p.nodes.map aV).length=p.nodes.length:=by simp
 have hd:decide ((800:Int) < ((p.nodes.map aV).length:Int))=false:=by rw [hm];simpa using by omega
 refine ai func62 ntmps62 ?_;refine zaQ ?_;exact al
theorem Oo (p r:Src) (l:List T) (x:ae) (ts:List Tok) (c:Int) (h:p.nodes.length<=800) (hB:GF prog 87 [.agg (aq p)] [] (.tup [.sl 1 (dp l),.v (.bool true)]) [])
  (hC:GF prog 116 [.sl 1 (dp l),.v (.func (.func 117) #[] #[])] [] (.v (.bool false)) [])
  (hL:GF prog 88 [.agg (aq p),.sl 1 (dp l),.v (lu 80),.v (lu 119)] [] (.v (sv x)) [])
  (hX:GF prog 120 [.v (sv x)] [] (.tup [iU ts,.v (ii 0),.v (ii c)]) [])
   (hg:GF prog 121 [strs p.globals,strs r.globals] [] (.v (.bool false)) [])
  (hP:GF prog 86 [iU ts,.v (ii (x.length:Int))] [] (.tup [.agg (aq r),.v (ii 0),.v (ii 0)]) []) :
  GF prog 62 [.agg (aq p)] [] (.v (.bool false)) []:=by
 have hm:(p.nodes.map aV).length=p.nodes.length:=by simp
 have hd:decide ((800:Int) < ((p.nodes.map aV).length:Int))=false:=by rw [hm];simpa using by omega
 refine ai func62 ntmps62 ?_;refine zaQ ?_;exact zfy
theorem Oq (p r:Src) (l:List T) (x:ae) (ts:List Tok) (c:Int) (h:p.nodes.length<=800) (hB:GF prog 87 [.agg (aq p)] [] (.tup [.sl 1 (dp l),.v (.bool true)]) [])
  (hC:GF prog 116 [.sl 1 (dp l),.v (.func (.func 117) #[] #[])] [] (.v (.bool false)) [])
  (hL:GF prog 88 [.agg (aq p),.sl 1 (dp l),.v (lu 80),.v (lu 119)] [] (.v (sv x)) [])
  (hX:GF prog 120 [.v (sv x)] [] (.tup [iU ts,.v (ii 0),.v (ii c)]) [])
   (hg:GF prog 121 [strs p.globals,strs r.globals] [] (.v (.bool true)) [])
  (ha:GF prog 122 [(.sl 2 (p.arrays.map fun s=>bg s)),(.sl 2 (r.arrays.map fun s=>bg s))] [] (.v (.bool false)) [])
  (hP:GF prog 86 [iU ts,.v (ii (x.length:Int))] [] (.tup [.agg (aq r),.v (ii 0),.v (ii 0)]) []) :
  GF prog 62 [.agg (aq p)] [] (.v (.bool false)) []:=by
 have hm:(p.nodes.map aV).length=p.nodes.length:=by simp
 have hd:decide ((800:Int) < ((p.nodes.map aV).length:Int))=false:=by rw [hm];simpa using by omega
 refine ai func62 ntmps62 ?_;refine zaQ ?_;refine V [] hg ?_;refine V [] ha ?_;exact al
theorem Ou (p r:Src) (l:List T) (x:ae) (ts:List Tok) (c:Int) (h:p.nodes.length<=800) (hB:GF prog 87 [.agg (aq p)] [] (.tup [.sl 1 (dp l),.v (.bool true)]) [])
  (hC:GF prog 116 [.sl 1 (dp l),.v (.func (.func 117) #[] #[])] [] (.v (.bool false)) [])
  (hL:GF prog 88 [.agg (aq p),.sl 1 (dp l),.v (lu 80),.v (lu 119)] [] (.v (sv x)) [])
  (hX:GF prog 120 [.v (sv x)] [] (.tup [iU ts,.v (ii 0),.v (ii c)]) [])
   (hg:GF prog 121 [strs p.globals,strs r.globals] [] (.v (.bool true)) [])
  (ha:GF prog 122 [(.sl 2 (p.arrays.map fun s=>bg s)),(.sl 2 (r.arrays.map fun s=>bg s))] [] (.v (.bool true)) [])
  (hf:GF prog 123 [.sl 3 (p.fns.map aw),.sl 3 (r.fns.map aw),.v (.func (.func 124) #[] #[])] [] (.v (.bool false)) [])
  (hP:GF prog 86 [iU ts,.v (ii (x.length:Int))] [] (.tup [.agg (aq r),.v (ii 0),.v (ii 0)]) []) :
  GF prog 62 [.agg (aq p)] [] (.v (.bool false)) []:=by
 have hm:(p.nodes.map aV).length=p.nodes.length:=by simp
 have hd:decide ((800:Int) < ((p.nodes.map aV).length:Int))=false:=by rw [hm];simpa using by omega
 refine ai func62 ntmps62 ?_;refine zaQ ?_;refine V [] hg ?_;refine V [] ha ?_;refine V [] hf ?_;exact al
theorem Ov (p r:Src) (l:List T) (x:ae) (ts:List Tok) (c:Int) (b:Bool) (h:p.nodes.length<=800) (hB:GF prog 87 [.agg (aq p)] [] (.tup [.sl 1 (dp l),.v (.bool true)]) [])
  (hC:GF prog 116 [.sl 1 (dp l),.v (.func (.func 117) #[] #[])] [] (.v (.bool false)) [])
  (hL:GF prog 88 [.agg (aq p),.sl 1 (dp l),.v (lu 80),.v (lu 119)] [] (.v (sv x)) [])
  (hX:GF prog 120 [.v (sv x)] [] (.tup [iU ts,.v (ii 0),.v (ii c)]) [])
   (hg:GF prog 121 [strs p.globals,strs r.globals] [] (.v (.bool true)) [])
  (ha:GF prog 122 [(.sl 2 (p.arrays.map fun s=>bg s)),(.sl 2 (r.arrays.map fun s=>bg s))] [] (.v (.bool true)) [])
  (hf:GF prog 123 [.sl 3 (p.fns.map aw),.sl 3 (r.fns.map aw),.v (.func (.func 124) #[] #[])] [] (.v (.bool true)) [])
  (hn:GF prog 125 [.sl 5 (p.nodes.map aV),.sl 5 (r.nodes.map aV),.v (.func (.func 126) #[] #[])] [] (.v (.bool b)) [])
  (hP:GF prog 86 [iU ts,.v (ii (x.length:Int))] [] (.tup [.agg (aq r),.v (ii 0),.v (ii 0)]) []) :
  GF prog 62 [.agg (aq p)] [] (.v (.bool b)) []:=by
 have hm:(p.nodes.map aV).length=p.nodes.length:=by simp
 have hd:decide ((800:Int) < ((p.nodes.map aV).length:Int))=false:=by rw [hm];simpa using by omega
 refine ai func62 ntmps62 ?_;refine zaQ ?_;refine V [] hg ?_;refine V [] ha ?_;refine V [] hf ?_;refine V [] hn ?_;exact al
theorem IC (p r:Src) (l:List T) (x:ae) (ts:List Tok) (c:Int) (b1 b2 b3 b4:Bool) (h:p.nodes.length<=800) (hB:GF prog 87 [.agg (aq p)] [] (.tup [.sl 1 (dp l),.v (.bool true)]) [])
  (hC:GF prog 116 [.sl 1 (dp l),.v (.func (.func 117) #[] #[])] [] (.v (.bool false)) [])
  (hL:GF prog 88 [.agg (aq p),.sl 1 (dp l),.v (lu 80),.v (lu 119)] [] (.v (sv x)) [])
  (hX:GF prog 120 [.v (sv x)] [] (.tup [iU ts,.v (ii 0),.v (ii c)]) [])
  (hg:GF prog 121 [strs p.globals,strs r.globals] [] (.v (.bool b1)) [])
  (ha:GF prog 122 [(.sl 2 (p.arrays.map fun s=>bg s)),(.sl 2 (r.arrays.map fun s=>bg s))] [] (.v (.bool b2)) [])
  (hf:GF prog 123 [.sl 3 (p.fns.map aw),.sl 3 (r.fns.map aw),.v (.func (.func 124) #[] #[])] [] (.v (.bool b3)) [])
  (hn:GF prog 125 [.sl 5 (p.nodes.map aV),.sl 5 (r.nodes.map aV),.v (.func (.func 126) #[] #[])] [] (.v (.bool b4)) [])
  (hP:GF prog 86 [iU ts,.v (ii (x.length:Int))] [] (.tup [.agg (aq r),.v (ii 0),.v (ii 0)]) []) :
  GF prog 62 [.agg (aq p)] [] (.v (.bool (b1&&(b2&&(b3&&b4))))) []:=by
 cases b1 with
 | false=>exact Oo p r l x ts c h hB hC hL hX hg hP
 | true =>
  cases b2 with
  | false=>exact Oq p r l x ts c h hB hC hL hX hg ha hP
  | true =>
   cases b3 with
   | false=>exact Ou p r l x ts c h hB hC hL hX hg ha hf hP
   | true=>exact Ov p r l x ts c b4 h hB hC hL hX hg ha hf hn hP
end Go.Xg
set_option maxHeartbeats 1000000
namespace Go.Xg
open Go.RowKit Go.Xw Go.Proofs Tryz Go.Im
open Go.Xp (aB eD)
open Go.Sp (Src)
attribute [local irreducible] GW GL GO YG GC GA aU aW
theorem Rv {st:PS} {f:Go.Sp.Fn} (h:f∈sj st):∃ x∈st.fns,f.params=x.2:=by
 unfold sj at h;obtain ⟨i,hi⟩:=getElem?_of_mem h;rw [List.getElem?_mapIdx] at hi
 cases hx:st.fns[i]? with
 | none=>rw [hx] at hi;cases hi
 | some x=>rw [hx] at hi;cases hi;exact ⟨x,bo hx,rfl⟩
theorem GJ (p:Src) (hw:b7 p<=1048576) (hn:ma p):GF prog 62 [.agg (aq p)] [] (.v (.bool (fI p))) []:=by
 obtain ⟨⟨s1,s2⟩,⟨s3,s4⟩,⟨s5,s6⟩,⟨s7,s8⟩⟩:=dU p
 have eh:∀ n∈p.nodes,n.kids.length<=1099511627776:=fun n h=>by have:=(s8 n h).2;omega
 have hB:=zA p X eh X;unfold fI
 by_cases h8:p.nodes.length > 800
 ·rw [ah h8];exact IB p h8
 rw [ab h8]
 cases hb:jX p.nodes p.fns 0 [] with
 | none=>exact Ft p X eh X hb
 | some y =>
  obtain ⟨l,e⟩:=y;simp only
  by_cases he:e≠p.nodes.length
  ·rw [ah he];exact LF p l e X eh X hb he
  rw [ab he]
  have he:e=p.nodes.length:=by simpa using he
  subst he;obtain ⟨l',I,G,h3,h4,h5⟩:=FG _ _ _ _ _ hb;rw [nil_append] at I;subst I
  have hz:aB l=p.nodes.length:=by omega
  have ael:=YJ hn G hz;have qF:=Lm G hz;have nS:=ij.len h3;have fQ:=ey.num hn.nodes l 0 G
  by_cases hk:l.all j0=false
  ·rw [ah hk];exact IA p l X eh X hb X (fun t ht=>by have:=(qF t ht).2;omega) hk
  rw [ab hk]
  have hk:l.all j0=true:=by simpa using hk
  obtain ⟨ts,c,z,q,st,hr⟩:=reads (qz ed iG p l);rw [DV hr];rw [hb] at hB;unfold FF at hB;simp only at hB;rw [show ((p.nodes.length:Int)==(p.nodes.length:Int))=true by simp] at hB;have hC:=ym l X (fun t ht=>by have:=(qF t ht).2;omega);rw [hk] at hC;have hL:=Vu 80 119 ed iG Wp p l X X X X X hn.arrays (fun f h=>by have:=(s6 f h).2.1;omega)
   (fun t ht=>⟨jb.1 hk t ht,mI fQ ht,by have:=(qF t ht).1;omega,by have:=(qF t ht).2;omega⟩)
  have hX:=VF _ _ ts c z X hr.lex;have aeE:=hr.len;have hP:=Md ts (((qz ed iG p l).length:Nat):Int) q st X X (fun h=>by have:=(hr.ok h).2;omega) hr.read;have lT:=Sm _ _ _ _ _ _ (aI _) hr.read ⟨aS _,aS _,aS _,fun x h=>by cases h⟩;have fA:=hr.ok;clear hr hb;generalize hxg:qz ed iG p l=x at *
  by_cases hc:c≠0
  ·rw [ah hc];exact LG p l x ts c z X hB hC hL hX zgx
  rw [ab hc]
  have hc:c=0:=by simpa using hc
  subst hc
  by_cases hq:q.code≠0
  ·rw [ah hq];unfold NS at hP;rw [ab hq] at hP;exact CL p l x ts z q.code q.at_ X hB hC hL hX hP (by simpa using hq)
  rw [ab hq]
  have hq:q.code=0:=by simpa using hq
  obtain ⟨Ho,hzs⟩:=fA hq
  by_cases h9:aB st.trees > 800
  ·rw [ah h9];unfold NS at hP;rw [ah hq,ah h9] at hP;exact CL p l x ts z 10 0 X hB hC hL hX hP aD
  rw [ab h9];rw [aa6 hq h9 Ho.len] at hP;obtain ⟨m1,m2,m3,m4⟩:=lT
  have ki:(eD 0 st.trees).length<=800:=by rw [Go.Xp.wc];omega
  unfold same;refine IC p (XK st) l x ts z _ _ _ _ X hB hC hL hX ?_ ?_ ?_ ?_ hP
  ·exact Mo _ _ X (by show st.globals.length<=_;omega)
  ·exact X0 _ _ X (by show st.arrays.length<=_;omega)
  ·refine LB p.fns (sj st) X ?_ (fun f h=>by have:=(s6 f h).2.1;omega) (fun f h=>?_)
   ·unfold sj;rw [List.length_mapIdx];omega
   ·obtain ⟨y,hy,h6⟩:=Rv h;rw [h6];have:=m4 y hy;omega
  ·exact LC p.nodes (eD 0 st.trees) X X eh (fun n h=>by have:=Du st.trees 0 n h;omega)
theorem Lw (n lo hi:Int):GF prog 57 [.v (ii n),.v (ii lo),.v (ii hi)] [] (.v (.bool (decide (lo<=n)&&decide (n<=hi)))) []:=by
 cases h:decide (lo<=n)
 all_goals
  refine ai func57 ntmps57 ?_;exact al
end Go.Xg
set_option maxHeartbeats 2000000
namespace Go.Im
open Go.Xp Go.Sp
theorem Af (p:Src):(dL p).length=p.globals.length+p.arrays.length+p.fns.length:=by simp [dL,gF,kZ];omega
end Go.Im
namespace Go.Xg
open Go.RowKit Go.Xw Go.Proofs Tryz Go.Im
open GV (U)
open Go.Sp (Src)
attribute [local irreducible] GW GL GO YG GC GA aU aW
theorem Al:∀ l:List ae,oG (br l)=true
 | []=>rfl
 | s::l=>by
  have:=Al l;unfold br at this |-;rw [List.map_cons,oG,this];rfl
theorem sG (l:List ae):(br l).length=l.length:=by simp [br]
theorem D6 (p:Src) (hw:b7 p<=1048576):GC prog 63 [.agg (aq p)] [] fun g Δ=>∃ a c,g=.v (.slice a (dL p).length c)/\Δ=[.vech 9 1 (br (dL p)) (.slice a (dL p).length c)]:=by
 obtain ⟨⟨a1,a2⟩,⟨b1,b2⟩,⟨c1,c2⟩,⟨d1,d2⟩⟩:=dU p
 have vm:(p.globals.map fun s=>[GV.v (sv s)]).length=p.globals.length:=by simp
 have eP:oG (p.globals.map fun s=>[GV.v (sv s)])=true:=Al p.globals;refine dh func63 ntmps63 ?_;refine GW.wk (Wk.gK 9 1) ?_;refine zd9 ?_;refine GL.xz 0 rfl rfl rfl rfl eP (by refine ⟨?_,?_⟩;(· rw [vm];omega);(· rw [vm];omega)) ?_;intro a c;rw [vm];refine zbJ ?_;refine GW.range (p.arrays.map bg).length (fun k fr Γ=>∃ a c R n,fr=[U,.loc 1 0,U,.v (.slice a n c),U,U,U,U,U,U,U,U,.sl 2 (p.arrays.map bg),.v (ii ((p.arrays.map bg).length:Int)),.v (ii (k:Nat)),U,U,U,U,U,U,U,U,U,U,U,U,U,U,U,U,U,U,U,U,U,U,U]/\Γ=[.vech 9 1 R (.slice a n c),.box 28 (aq p)]/\R.length=n/\R=br (p.globals++(gF p).take k)) ?_ zgr ?_ ?_ ?_
 ·exact ⟨_,_,Wk.aH ao,_,_,_,_,rfl,rfl,vm,by simp [br]⟩
 ·rintro k _ _ ⟨a,c,R,n,rfl,rfl,_⟩;exact dr
 ·rintro k _ _ hk ⟨a,c,R,n,rfl,rfl,mR,hR⟩
  have hk:k < p.arrays.length:=by simpa using hk
  have hx:p.arrays[k]?=some p.arrays[k]:=by simp [hk]
  have hr:=KK hx
  have cl:br (p.globals++(gF p).take (k+1))=R++[[.v (sv p.arrays[k].name)]]:=by
   have:(gF p)[k]?=some p.arrays[k].name:=by rw [gF,bp,hx];rfl
   exact zfS
  have uh:n<=4194304:=by
   rw [<-mR,hR,sG,aL,gE];omega
  clear hR;unfold bg at hr;generalize p.arrays[k]=x at *;exact zbP
 ·rintro _ _ ⟨a,c,R,n,rfl,rfl,mR,hR⟩;rw [bM,show p.arrays.length=(gF p).length by simp [gF],c7] at hR;refine zcC ?_;refine GW.range (p.fns.map aw).length (fun k fr Γ=>∃ a c R n,fr=[U,.loc 1 0,U,.v (.slice a n c),U,U,U,U,U,U,U,U,U,U,U,U,U,U,U,U,U,U,U,U,U,.sl 3 (p.fns.map aw),.v (ii ((p.fns.map aw).length:Int)),.v (ii (k:Nat)),U,U,U,U,U,U,U,U,U,U]/\Γ=[.vech 9 1 R (.slice a n c),.box 28 (aq p)]/\R.length=n/\R=br ((p.globals++gF p)++(kZ p).take k)) ?_ zgr ?_ ?_ ?_
  ·exact ⟨_,_,Wk.aH ao,_,_,_,_,rfl,rfl,mR,by rw [hR];simp⟩
  ·rintro k _ _ ⟨a,c,R,n,rfl,rfl,_⟩;exact dr
  ·rintro k _ _ hk ⟨a,c,R,n,rfl,rfl,mR,hR⟩
   have hk:k < p.fns.length:=by simpa using hk
   have hx:p.fns[k]?=some p.fns[k]:=by simp [hk]
   have hr:=E9 hx
   have cl:br ((p.globals++gF p)++(kZ p).take (k+1))=R++[[.v (sv p.fns[k].name)]]:=by
    have:(kZ p)[k]?=some p.fns[k].name:=by rw [kZ,bp,hx];rfl
    exact zfS
   have uh:n<=4194304:=by
    rw [<-mR,hR,sG,aL,aL,gE,gF,bM];omega
   clear hR;unfold aw at hr;generalize p.fns[k]=x at *;exact zbP
  ·rintro _ _ ⟨a,c,R,n,rfl,rfl,mR,hR⟩;rw [bM,show p.fns.length=(kZ p).length by simp [kZ],c7] at hR
   have uj:n=(dL p).length:=by rw [<-mR,hR,sG];rfl
   subst uj;refine zcC ?_;refine gL ?_;exact la (n:=1) rfl cB rfl (aS _) rfl rfl ⟨a,c,rfl,by rw [hR];rfl⟩
end Go.Xg
set_option maxHeartbeats 4000000
namespace Go.Im
open Go.Xp Go.Sp
def AM (l:List ae) (k:Nat):Int:=if (List.range k).any (nJ l)=true then 21 else 0
theorem VL (l:List ae) (k:Nat):AM l (k+1)=if nJ l k=true then jk (AM l k) 21 else AM l k:=by
 unfold AM;rw [List.range_succ,List.any_append]
 cases h:(List.range k).any (nJ l) with
 | true=>simp [jk]
 | false=>simp [jk]
theorem YW (l:List ae):AM l l.length=if fD l=true then 21 else 0:=rfl
def eG (p:Src) (fn:Int):Bool:=(de p&&decide ((0:Int)<=fn))&&decide (fn < (p.fns.length:Int))
end Go.Im
namespace Go.Xg
open Go.RowKit Go.Xw Go.Proofs Tryz Go.Im
open GV (U)
open Go.Sp (Src)
attribute [local irreducible] GW GL GO YG GC GA aU aW
theorem Pw (p:Src) (hw:b7 p<=1048576) :
  GF prog 172 [.loc 0 0] [.box 160 (cC p (.slice none 0 0) ⟨[],0,0⟩)] (.tup []) [.box 160 (cC p (.slice none 0 0) ⟨[],(if fD (dL p)=true then 21 else 0),0⟩)]:=by
 obtain ⟨⟨a1,a2⟩,⟨b1,b2⟩,⟨c1,c2⟩,⟨d1,d2⟩⟩:=dU p
 have vm:(p.globals.map fun s=>[GV.v (sv s)]).length=p.globals.length:=by simp
 have eP:oG (p.globals.map fun s=>[GV.v (sv s)])=true:=Al p.globals;have uj:=Af p;rw [<-YW]
 have Bc:=fun k=>FP p (.slice none 0 0) (AM (dL p) k) 21
 rw [show (0:Int)=AM (dL p) 0 from rfl];unfold cC at Bc |-;refine ai func172 ntmps172 ?_;refine lL ?_;refine D ?_;refine lL ?_;refine D ?_;refine GL.D7 rfl rfl rfl rfl eP (by refine ⟨?_,?_⟩;(· rw [vm];omega);(· rw [vm];omega)) ?_;rw [vm];refine ct ?_;simp only [dJ];refine D ?_;refine GW.range (p.arrays.map bg).length (fun k fr Γ=>∃ R n,fr=[.loc 0 0,U,.vec 1 0,.vec 2 n,U,U,U,U,U,U,U,U,U,U,U,U,U,U,U,U,U,U,.sl 2 (p.arrays.map bg),.v (ii ((p.arrays.map bg).length:Int)),.v (ii (k:Nat)),U,U,U,U,U,U,U,U,U,U,U,U,U,U,U,U,U,U,U,U,U,U,U,U,U,U,U,U,U,U,U,U,U,U,U,U,U,U,U,U,U,U,U,U,U]/\Γ=[.box 160 [strs p.globals,.sl 2 (p.arrays.map bg),.sl 3 (p.fns.map aw),.sl 5 (p.nodes.map aV),.v (.slice none 0 0),.v (ii (AM (dL p) 0)),.v (ii 0)],.vec 9 1 0 [],.vec 9 1 0 R]/\R.length=n/\R=br (p.globals++(gF p).take k)) ?_ zgr ?_ ?_ ?_
 ·exact ⟨_,_,Wk.aH ao,_,_,rfl,rfl,vm,by simp [br,chunk]⟩
 ·rintro k _ _ ⟨R,n,rfl,rfl,_⟩;exact dr
 ·rintro k _ _ hk ⟨R,n,rfl,rfl,mR,hR⟩
  have hk:k < p.arrays.length:=by simpa using hk
  have hx:p.arrays[k]?=some p.arrays[k]:=by simp [hk]
  have hr:=KK hx
  have cl:br (p.globals++(gF p).take (k+1))=R++[[.v (sv p.arrays[k].name)]]:=by
   have:(gF p)[k]?=some p.arrays[k].name:=by rw [gF,bp,hx];rfl
   exact zfS
  have uh:n<=4194304:=by
   rw [<-mR,hR,sG,aL,gE];omega
  have hb:n+1<=9223372036854775807/\(n+1) * 16<=140737488355328:=by omega
  clear hR;unfold bg at hr;generalize p.arrays[k]=x at *;exact zcn
 ·rintro _ _ ⟨R,n,rfl,rfl,mR,hR⟩;rw [bM,show p.arrays.length=(gF p).length by simp [gF],c7] at hR;refine zcC ?_;refine GW.range (p.fns.map aw).length (fun k fr Γ=>∃ R n,fr=[.loc 0 0,U,.vec 1 0,.vec 2 n,U,U,U,U,U,U,U,U,U,U,U,U,U,U,U,U,U,U,U,U,U,U,U,U,U,U,U,U,U,U,U,U,U,U,.sl 3 (p.fns.map aw),.v (ii ((p.fns.map aw).length:Int)),.v (ii (k:Nat)),U,U,U,U,U,U,U,U,U,U,U,U,U,U,U,U,U,U,U,U,U,U,U,U,U,U,U,U,U]/\Γ=[.box 160 [strs p.globals,.sl 2 (p.arrays.map bg),.sl 3 (p.fns.map aw),.sl 5 (p.nodes.map aV),.v (.slice none 0 0),.v (ii (AM (dL p) 0)),.v (ii 0)],.vec 9 1 0 [],.vec 9 1 0 R]/\R.length=n/\R=br ((p.globals++gF p)++(kZ p).take k)) ?_ zgr ?_ ?_ ?_
  ·exact ⟨_,_,Wk.aH ao,_,_,rfl,rfl,mR,by rw [hR];simp⟩
  ·rintro k _ _ ⟨R,n,rfl,rfl,_⟩;exact dr
  ·rintro k _ _ hk ⟨R,n,rfl,rfl,mR,hR⟩
   have hk:k < p.fns.length:=by simpa using hk
   have hx:p.fns[k]?=some p.fns[k]:=by simp [hk]
   have hr:=E9 hx
   have cl:br ((p.globals++gF p)++(kZ p).take (k+1))=R++[[.v (sv p.fns[k].name)]]:=by
    have:(kZ p)[k]?=some p.fns[k].name:=by rw [kZ,bp,hx];rfl
    exact zfS
   have uh:n<=4194304:=by
    rw [<-mR,hR,sG,aL,aL,gE,gF,bM];omega
   have hb:n+1<=9223372036854775807/\(n+1) * 16<=140737488355328:=by omega
   clear hR;unfold aw at hr;generalize p.fns[k]=x at *;exact zcn
  ·rintro _ _ ⟨R,n,rfl,rfl,mR,hR⟩;rw [bM,show p.fns.length=(kZ p).length by simp [kZ],c7] at hR;have hR:R=br (dL p):=hR
   have jK:R.length=(dL p).length:=by rw [hR,sG]
   have hnn:n=R.length:=mR.symm;subst hnn;refine bc ?_;refine GW.wk (Wk.jY (t:=3) rfl rfl rfl rfl) ?_;refine GW.wk (Wk.cut (n:=2) (c6 rfl) rfl) ?_;refine GW.Ef (cV:=[.loc 0 0,U,.vec 1 0,.sl 1 R,U,U,U,U,U,U,U,U,U,U,U,U,U,U,U,U,U,U,U,U,U,U,U,U,U,U,U,U,U,U,U,U,U,U,U,U,U,U,U,U,U,U,U,U,U,U,U,U,U,U,U,U,U,U,U,U,U,U,U,U,U,U,U,U,U,U]) (aZ:=[.box 160 [strs p.globals,.sl 2 (p.arrays.map bg),.sl 3 (p.fns.map aw),.sl 5 (p.nodes.map aV),.v (.slice none 0 0),.v (ii (AM (dL p) 0)),.v (ii 0)],.vec 9 1 0 []]) ao rfl ?_;refine D ?_;refine GW.range R.length (fun k fr Γ=>∃ S n fz,fr=[.loc 0 0,U,.vec 1 n,U,U,U,U,U,U,U,U,U,U,U,U,U,U,U,U,U,U,U,U,U,U,U,U,U,U,U,U,U,U,U,U,U,U,U,U,U,U,U,U,U,U,U,U,U,U,U,.sl 1 R,.v (ii (R.length:Int)),.v (ii (k:Nat)),U,U,U,U,U,U,U,U,U,U,U,U,U,U,U,U,U]/\Γ=[.box 160 [strs p.globals,.sl 2 (p.arrays.map bg),.sl 3 (p.fns.map aw),.sl 5 (p.nodes.map aV),.v (.slice none 0 0),.v (ii (AM (dL p) k)),.v (ii 0)],.vec 9 1 fz S]/\S.length=n/\S=br ((dL p).take k)) ?_ X ?_ ?_ ?_
   ·exact ⟨_,_,Wk.aH ao,_,_,_,rfl,rfl,rfl,by simp [br]⟩
   ·rintro k _ _ ⟨S,n,fz,rfl,rfl,_⟩;exact dr
   ·rintro k _ _ hk ⟨S,n,fz,rfl,rfl,fG,hS⟩;rw [jK] at hk;obtain ⟨x,hx⟩:∃ x,(dL p)[k]?=some x:=⟨(dL p)[k],by simp [hk]⟩
    have Nh:R[k]?=some [.v (sv x)]:=by rw [hR,br,bp,hx];rfl
    have cl:br ((dL p).take (k+1))=S++[[.v (sv x)]]:=by rw [dk,hx,hS];simp [br]
    have uh:n<=8388608:=by rw [<-fG,hS,sG,gE];omega
    have hb:n+1<=9223372036854775807/\(n+1) * 16<=140737488355328:=by omega
    have hd:nJ (dL p) k=(pJ x || ((dL p).take k).contains x):=by unfold nJ;rw [hx]
    have RP:=Px x
    have hL:GF prog 197 [.sl 1 S,.v (sv x)] [] (.v (.bool (((dL p).take k).contains x))) []:=by
     rw [hS];exact lh ((dL p).take k) x zgA
    have hF:=Bc k;rw [VL];clear hS hR jK;generalize AM (dL p) k=cd at *;generalize nJ (dL p) k=bn at *
    cases I:pJ x with
    | true =>
     rw [I] at RP hd;subst hd;rw [ah zf8];refine D ?_;refine V [] RP ?_;refine V [0] hF ?_;exact zbV
    | false =>
     rw [I] at RP hd
     cases G:((dL p).take k).contains x with
     | true =>
      rw [G] at hL hd;subst hd;rw [ah zf8];refine zeK ?_;refine V [0] hF ?_;exact zbV
     | false =>
      rw [G] at hL hd;subst hd;rw [ab zf8];refine zeK ?_;exact zbV
   ·rintro _ _ ⟨S,n,fz,rfl,rfl,fG,hS⟩;rw [jK];exact iy
theorem YF (p:Src) (c z:Int) (h:GF prog 112 [.agg (aq p)] [] (.tup [.v (ii c),.v (ii z)]) []):GF prog 54 [.agg (aq p)] [] (.v (.bool (c==0))) []:=by
 refine ai func54 ntmps54 ?_;exact za0
open Go.Xp (T aQ aB)
theorem Gq {l:List T} {t:T} (h:t∈l):aQ t<=aB l:=by
 obtain ⟨k,hk⟩:=getElem?_of_mem h;have:=ku hk;omega
theorem Dw {p:Src} (h:fI p=false):de p=false:=by unfold de;rw [h];rfl
theorem Ba {p:Src} {l:List T} (h:fI p=true) (hl:jj p l):de p=((Ed p l).1==0):=by
 unfold de;rw [h,hl.AB];simp only [Bool.true_and];rfl
theorem yJ (p:Src) (hw:b7 p<=1048576) (hn:ma p):GF prog 46 [.agg (aq p)] [] (.v (.bool (de p))) []:=by
 obtain ⟨⟨a1,a2⟩,⟨b1,b2⟩,⟨c1,c2⟩,⟨d1,d2⟩⟩:=dU p;have hF:=GJ p hw hn
 cases hf:fI p with
 | false =>
  rw [hf] at hF;have:=RI p _ _ (GH p hF);rw [Dw hf];exact this
 | true =>
  rw [hf] at hF;obtain ⟨l,hl⟩:=sM hf;have hlen:=ij.len hl.fns;have uj:=Af p;have lx:=AR hl
  have hc:=D3 p l (dL p) X hlen X hF (D6 p hw) (HY p X X fun a ha=>⟨(lx a ha).1,by have:=(lx a ha).2;omega⟩) fun i f t I G=>by
   obtain ⟨e1,_⟩:=ij.at_ hl.fns i f t I G;have h7:=ey.ix l 0 i _ hl.st G;rw [dJ] at e1 h7
   have hb:f.body.toNat=aB (l.take i):=by rw [e1,iK]
   exact zbw
  rw [Ba hf hl];exact RI p _ _ hc
theorem Ud (p:Src) (hw:b7 p<=1048576):∃ c z,GF prog 112 [.agg (aq p)] [] (.tup [.v (ii c),.v (ii z)]) []/\(c==0)=de p:=by
 obtain ⟨⟨a1,a2⟩,⟨b1,b2⟩,⟨c1,c2⟩,⟨d1,d2⟩⟩:=dU p;have hF:=Ql p hw
 cases hf:fI p with
 | false =>
  rw [hf] at hF;exact ⟨_,_,Qh p hF,by rw [Dw hf];rfl⟩
 | true =>
  rw [hf] at hF;obtain ⟨l,hl⟩:=sM hf;have hlen:=ij.len hl.fns;have lx:=AR hl
  have aaF:∀ a∈p.arrays,0<=a.size/\a.size<=2147483648:=fun a ha=>⟨(lx a ha).1,by have:=(lx a ha).2;omega⟩
  obtain ⟨ls,hm⟩:=hl.OX
  have hS:=fun k=>J9 p (.slice none 0 0) k X aaF fun h=>Ic p (.slice none 0 0) k X X aaF h
  have hle:=hl.len
  have hc:=Ol p l _ _ hlen X X X (fun f h=>by have:=(c2 f h).2.1;omega) (fun t ht=>by have:=Gq ht;omega) hF (Pw p hw) (hS _) fun i f t I G=>by
   obtain ⟨e1,_⟩:=ij.at_ hl.fns i f t I G;have h7:=ey.ix l 0 i _ hl.st G;rw [dJ] at e1 h7;rw [e1];exact Iw p (fun n h=>by have:=(d2 n h).2;omega) _ _ t ((zm _).1 t _ h7 (aI _))
  have hs:=ZX (p:=p) (l:=l) (fun a ha=>(lx a ha).1) (fun t ht=>by obtain ⟨i,hi⟩:=getElem?_of_mem ht;exact (hm.wf hi).1)
  have e:((QN p l).code==0)=de p:=by
   rw [Ba hf hl]
   by_cases h0:(Ed p l).1=0
   ·rw [h0,hs.1 h0]
   ·have I:(QN p l).code≠0:=fun e=>h0 (hs.2 e)
    rw [show ((Ed p l).1==0)=false by simpa using h0,show ((QN p l).code==0)=false by simpa using I]
  exact ⟨_,_,hc,e⟩
theorem yI (p:Src) (hw:b7 p<=1048576):GF prog 54 [.agg (aq p)] [] (.v (.bool (de p))) []:=by
 obtain ⟨c,z,h,e⟩:=Ud p hw;rw [<-e];exact YF p c z h
theorem K6 (p:Src) (hk:∀ n∈p.nodes,n.kids.length<=1000000000000) (f:Go.Sp.Fn) (t:T) (hb:0<=f.body) (b6:ek p.nodes f.body.toNat t):GF prog 84 [.agg (aq p),.v (ii f.body)] [] (.agg (cT t)) []:=by
 have:=Iw p hk _ _ t ((zm _).1 t _ b6 (aI _))
 rwa [Int.toNat_of_nonneg hb] at this
end Go.Xg
namespace Go.Im
open Go.Xp Go.Sp
theorem Good.AB {p:Src} {l:List T} (h:Good p l):jX p.nodes p.fns 0 []=some (l,p.nodes.length):=h.st.AB
structure kM (p:Src) (l:List T) (i:Nat) (f:Go.Sp.Fn) (t:T):Prop where
 good:Good p l
 gf:p.fns[i]?=some f
 gt:l[i]?=some t
 ok:E0 p t f.params
 wf:gZ t
 z:zT t
 st:ek p.nodes f.body.toNat t
 body:0<=f.body
 sz:aQ t<=800
theorem Good.fn {p:Src} {l:List T} (h:Good p l) {i:Nat} {f:Go.Sp.Fn} {t:T} (e1:p.fns[i]?=some f) (e2:l[i]?=some t):kM p l i f t:=by
 obtain ⟨a1,a2,a3,a4,a5⟩:=h.at_ _ _ _ e1 e2;refine ⟨h,e1,e2,a1,a2,a3,a4,a5,?_⟩;have:=h.st.few;have:=a4.le;omega
theorem mK {p:Src} {fn:Int} (h:eG p fn=true):∃ (i:Nat) (l:List T) (f:Go.Sp.Fn) (t:T),fn=(i:Int)/\kM p l i f t:=by
 unfold eG at h;simp only [aK,decide_eq_true_eq] at h;obtain ⟨⟨I,G⟩,h3⟩:=h;obtain ⟨l,hl⟩:=yK I;have hlen:=hl.len
 have hi:fn.toNat < p.fns.length:=by omega
 have e1:p.fns[fn.toNat]?=some p.fns[fn.toNat]:=bV _;have e2:l[fn.toNat]?=some (l[fn.toNat]'zgb):=bV _;obtain ⟨a1,a2,a3,a4,a5⟩:=hl.at_ _ _ _ e1 e2;refine ⟨fn.toNat,l,_,_,by omega,hl,e1,e2,a1,a2,a3,a4,a5,?_⟩;have:=hl.st.few;have:=a4.le;omega
theorem kM.acX {kinds:List Int} {p:Src} {l:List T} {i:Nat} {f:Go.Sp.Fn} {t:T} {name:ae} (h:kM p l i f t) (hk:∀ k∈kinds,k=2\/k=7\/k=13) :
  vH kinds name true (oA (f.params++dI t) t f.params)=mb (iF name kinds) t f.params :=
 MC p (f.params++dI t) name kinds hk t f.params h.wf h.z h.ok (fun s hs=>List.mem_append_left _ hs) (fun s hs=>List.mem_append_right _ hs)
theorem kM.vars {p:Src} {l:List T} {i:Nat} {f:Go.Sp.Fn} {t:T} (h:kM p l i f t):(dI t).length<=800:=by
 have:=D1 _ t (aI _);have:=h.sz;omega
end Go.Im
namespace Go.Xg
open Go.RowKit Go.Xw Go.Proofs Tryz Go.Im
open GV (U)
open Go.Xp (Nd T aQ aB eI jJ eD wc bJ zX Ci)
theorem Fg:∀ (aeJ A Δ:List Ob),aeJ.length<=Δ.length->fS (A++aeJ) (List.range' A.length aeJ.length) Δ=A++Δ
 | [],A,Δ,h=>by
  show fS (A++[]) [] Δ=_;rw [fS,dN]
 | x::aeJ,A,[],h=>by simp at h
 | x::aeJ,A,y::Δ,h=>by
  rw [length_cons,List.range'_succ,fS]
  have e:oset (A++x::aeJ) A.length y=(A++[y])++aeJ:=by rw [DU];simp
  have:=Fg aeJ (A++[y]) Δ zgc;rw [aL,length_singleton] at this;rw [e,this];simp
section
variable {P:Program} {m:Nat} {Q:eC} {fr:List GV} {Γ:List Ob} {ops:Array Oper} {rest:List Oper} {d:Option Tmp} {op:Op} {ty:TypeId} {pos:String} {af:Array Edge}
theorem GL.X9 {f:FuncId} [hf:aO P f] (A aeJ:List Ob) {args:List Operand} {rJ:Array TypeId} {gs:List GV} {R:GV->List Ob->Prop} (hc:GC P f gs aeJ R) (bH:Γ=A++aeJ) (hX:∀ x∈aeJ,x.vP=true) (W0:∀ r,Go.Xg.pb r gs=gs) (ha:n9 (args.map (bq fr)) gs)
  (h:∀ g Δ,R g Δ->aeJ.length<=Δ.length/\(∀ x∈Δ,x.vP=true)/\(∀ r,fc r g=g)/\GL P m ops Q rest (bR fr d g) (A++Δ)) :
  GL P m ops Q (⟨d,.call ⟨.value (.func f),args.toArray,rJ⟩,ty,pos,af,none⟩::rest) fr Γ:=by
 subst bH
 refine GL.OJ (List.range' A.length aeJ.length) hc (by rw [W0];exact ha) (Mc _ _ _ (by simp only [aL];omega)) ?_ fun g Δ hr=>?_
 ·have:=Ff (cY (List.range' A.length aeJ.length) (A++aeJ).length) aeJ A [] hX;rw [dN] at this;exact this
 obtain ⟨I,G,h3,h4⟩:=h g Δ hr;refine ⟨by rw [List.length_range'];exact I,?_⟩;rw [NI G,Fg _ _ _ I,h3];exact h4
end
def da (aX:List Nd) (h:Value) (ns:List Value):List Ob:=.vech 78 5 (List.zipWith ei aX ns) h::List.zipWith kz aX ns
structure rU (aX:List Nd) (h:Value) (ns:List Value):Prop where
 head:∃ a c,h=.slice a aX.length c
 len:ns.length=aX.length
 kid:∀ (i:Nat) x y,aX[i]?=some x->ns[i]?=some y->Hd x.kids.length y
theorem Ai {aX:List Nd} {h:Value} {ns:List Value}:∀ x∈da aX h ns,x.vP=true:=fun x hx=>by
 rcases fh hx with rfl | hx
 ·rfl
 ·exact LA (fun _ _=>rfl) x hx
theorem vW {aX:List Nd} {h:Value} {ns:List Value} (H:rU aX h ns):(da aX h ns).length=aX.length+1:=by
 unfold da;rw [length_cons,va,H.len,Nat.min_self]
def fg (x:Nd) (ks:List Int):Nd:=⟨x.kind,x.at_,x.n,x.s,ks⟩
theorem rU.snoc {aX:List Nd} {h:Value} {ns:List Value} (H:rU aX h ns) (x:Nd) {a b:Option Addr} {c d:Nat}:rU (aX++[x]) (.slice a (aX.length+1) c) (ns++[.slice b x.kids.length d]):=by
 refine ⟨⟨a,c,by simp⟩,by simp [H.len],fun i y v I G=>?_⟩;have hl:=H.len
 rcases Nat.lt_or_ge i aX.length with hi | hi
 ·rw [gm hi] at I;rw [gm X] at G;exact H.kid i y v I G
 ·rw [gR hi] at I;rw [gR X,hl] at G
  cases hk:i - aX.length with
  | zero =>
   rw [hk] at I G
   cases I;cases G
   exact zaJ
  | succ k=>rw [hk] at I;simp at I
theorem Ma {aX:List Nd} {ns:List Value} (hl:ns.length=aX.length) (x:Nd) (y h:Value):da (aX++[x]) h (ns++[y])=.vech 78 5 (List.zipWith ei aX ns++[ei x y]) h::(List.zipWith kz aX ns++[kz x y]):=by
 unfold da;rw [List.zipWith_append hl.symm,List.zipWith_append hl.symm];rfl
theorem rU.put {aX:List Nd} {h:Value} {ns:List Value} (H:rU aX h ns) {i:Nat} {x:Nd} (hx:aX[i]?=some x) (ks:List Int) {b:Option Addr} {d n:Nat} (hn:n=ks.length):rU (aX.set i (fg x ks)) h (ns.set i (.slice b n d)):=by
 subst hn;obtain ⟨a,c,e⟩:=H.head;refine ⟨⟨a,c,by rw [e,length_set]⟩,by simp [H.len],fun j y v I G=>?_⟩;rw [fb] at I G
 by_cases fy:i=j
 ·rw [ah fy] at I G;split at I
  ·cases I;split at G
   ·cases G;exact zaJ
   ·cases G
  ·cases I
 ·rw [ab fy] at I G;exact H.kid j y v I G
theorem BO:∀ {aX:List Nd} {ns:List Value} {i:Nat} {x:Nd} (ks:List Int) (y:Value),ns.length=aX.length->aX[i]?=some x->iw (List.zipWith ei aX ns) i 4 (.v y)=List.zipWith ei (aX.set i (fg x ks)) (ns.set i y)
 | [],ns,i,x,ks,y,hl,h=>by simp at h
 | n::aX,[],i,x,ks,y,hl,h=>by simp at hl
 | n::aX,v::ns,0,x,ks,y,hl,h=>by cases h;rfl
 | n::aX,v::ns,i+1,x,ks,y,hl,h=>by
  have:=BO (aX:=aX) (ns:=ns) (i:=i) (x:=x) ks y zge zgc;rw [zipWith_cons_cons,iw,this];rfl
theorem BL:∀ {aX:List Nd} {ns:List Value} {i:Nat} {x:Nd} (ks:List Int) (y:Value),ns.length=aX.length->aX[i]?=some x->oset (List.zipWith kz aX ns) i (.vech 3 1 (be ks) y)=List.zipWith kz (aX.set i (fg x ks)) (ns.set i y)
 | [],ns,i,x,ks,y,hl,h=>by simp at h
 | n::aX,[],i,x,ks,y,hl,h=>by simp at hl
 | n::aX,v::ns,0,x,ks,y,hl,h=>by cases h;rfl
 | n::aX,v::ns,i+1,x,ks,y,hl,h=>by
  have:=BL (aX:=aX) (ns:=ns) (i:=i) (x:=x) ks y zge zgc;rw [zipWith_cons_cons,oset,this];rfl
def lK (aX:List Nd) (n:Nd) (l:List T) (k:Nat):List Nd:=aX++fg n (bJ (aX.length+1) (l.take k))::eD (aX.length+1) (l.take k)
theorem Kn {aX:List Nd} {n:Nd} {l:List T} {k:Nat}:(lK aX n l k).length=aX.length+1+aB (l.take k):=by
 unfold lK;rw [aL,length_cons,wc];omega
theorem YS {aX:List Nd} {n:Nd} {l:List T} {k:Nat}:(lK aX n l k)[aX.length]?=some (fg n (bJ (aX.length+1) (l.take k))):=by
 unfold lK;rw [gR (aI _),tZ];rfl
theorem S2 {aX:List Nd} {n:Nd} {l:List T} {k:Nat} {u:T} (h:l[k]?=some u) :
  (lK aX n l k).set aX.length (fg (fg n (bJ (aX.length+1) (l.take k))) (bJ (aX.length+1) (l.take k)++[(((lK aX n l k).length:Nat):Int)]))++jJ (lK aX n l k).length u=lK aX n l (k+1):=by
 have oW:l.take (k+1)=l.take k++[u]:=by rw [dk,h];rfl
 rw [Kn];unfold lK;rw [List.set_append_right _ _ (aI _),tZ,set_cons_zero,oW,zX,Ci];simp only [bJ,eD,dN,fg,eF,cons_append]
theorem VK {aX:List Nd} {n:Nd} {l:List T}:lK aX n l l.length=aX++jJ aX.length (.mk n l):=by
 unfold lK fg;rw [c7,jJ]
attribute [local irreducible] GW GL GO YG GC GA aU aW
theorem Vr:∀ (N:Nat) (t:T),aQ t<=N->∀ (aX:List Nd) (h:Value) (ns:List Value),rU aX h ns->aX.length+aQ t<=8388608 ->
  GC prog 218 [.v h,.agg (cT t)] (da aX h ns) fun g Δ=>∃ h' ql,rU (aX++jJ aX.length t) h' ql/\g=.v h'/\Δ=da (aX++jJ aX.length t) h' ql:=by
 intro N
 induction N with
 | zero=>intro t h;exact zcF
 | succ N ih =>
 intro t hN aX h ns H hb
 cases t with
 | mk n l =>
 rw [Go.Xp.aQ] at hN hb;have nS:=eI l;have eH:(ba l).length=l.length:=bh l;have dS:=vW H;have uj:=H.len;obtain ⟨a0,c0,rfl⟩:=H.head
 have jK:(List.zipWith ei aX ns).length=aX.length:=by rw [va];omega
 have hOl:(List.zipWith kz aX ns).length=aX.length:=by rw [va];omega
 have hOk:∀ q,uu q (List.zipWith kz aX ns)=true:=fun q=>NO (LA (fun _ _=>rfl))
 have Bv:=fun (y h:Value)=>Ma uj (fg n []) y h
 have hHs:=fun (a:Option Addr) (c:Nat)=>H.snoc (fg n []) (a:=a) (c:=c) (b:=none) (d:=0)
 refine dh func218 ntmps218 ?_;rw [dS];unfold da;generalize List.zipWith ei aX ns=R at *;generalize List.zipWith kz aX ns=O at *;refine GW.seq ?_;refine GW.region ?_;refine GL.IU rfl rfl ?_;refine ct ?_;refine Gw ?_;refine GL.adS rfl rfl rfl rfl rfl rfl ?_;refine ct ?_
 have hq:∀ x:Ob,(x::O).length=O.length+1:=fun x=>rfl
 simp only [hq,cons_append]
 have hbx:∀ x y:Ob,(x::(O++[y]))[O.length+1]?=some y:=fun x y=>ZS (x::O) [] y
 have hsx:∀ x y z:Ob,oset (x::(O++[y])) (O.length+1) z=x::(O++[z]):=fun x y z=>DU (x::O) [] y z
 refine D ?_;refine GL.st rfl (hbx _ _) rfl rfl rfl rfl ?_;refine ub vZ (hsx _ _ _) ?_;refine D ?_;refine GL.q (YG.Vy rfl (hbx _ _) rfl rfl) ?_;refine ct ?_;refine GL.fO 0 rfl rfl rfl rfl rfl rfl rfl rfl jK jm ?_;intro a1 c1;refine zaq ?_;refine GW.range (ba l).length (fun k fr Γ=>∃ h' ql,fr=[.v h',U,U,.box (cT (.mk n l)) 0,U,.v (ii (aX.length:Nat)),U,U,U,U,U,U,U,U,U,U,U,U,U,.sl 6 (ba l),.v (ii ((ba l).length:Int)),.v (ii (k:Nat)),U,U,U,U,U,U,U,U,U,U,U,U,U,U,U,U,U,U,U,U,U]/\rU (lK aX n l k) h' ql/\Γ=da (lK aX n l k) h' ql) ?_ X ?_ ?_ ?_
 ·have e0:lK aX n l 0=aX++[fg n []]:=by unfold lK;rw [List.take_zero];rfl
  rw [e0];refine ⟨_,_,((Wk.Yg (A:=_::O) rfl (by rw [length_cons,hOl];exact aI _) (fun q=>by simp only [uu,hOk];rfl)).trans (Wk.gK 3 1)).trans (Wk.aH ao),_,ns++[.slice none 0 0],rfl,hHs a1 c1,?_⟩;rw [Bv];rfl
 ·rintro k _ _ ⟨h',ql,rfl,_,rfl⟩;exact dr
 ·rintro k _ _ au ⟨h',ql,rfl,HM,rfl⟩;rw [eH] at au;obtain ⟨u,hu⟩:∃ u,l[k]?=some u:=⟨l[k],by simp [au]⟩;have hr:=dB hu;have dj:=ku hu;have hMl:=Kn (aX:=aX) (n:=n) (l:=l) (k:=k);have M4:=YS (aX:=aX) (n:=n) (l:=l) (k:=k);have hMn:=S2 (aX:=aX) (n:=n) hu;rw [<-hMn];obtain ⟨a2,c2,rfl⟩:=HM.head;have aax:=HM.len;obtain ⟨y,hy⟩:∃ y,ql[aX.length]?=some y:=⟨ql[aX.length]'X,bV _⟩;obtain ⟨a3,c3,rfl⟩:=HM.kid _ _ _ M4 hy
  have lg:=fun (a:Option Addr) (c:Nat)=>HM.put M4 (bJ (aX.length+1) (l.take k)++[(((lK aX n l k).length:Nat):Int)]) (b:=a) (d:=c) (n:=(bJ (aX.length+1) (l.take k)).length+1) zf8
  have hrk:=fun (y:Value)=>BO (bJ (aX.length+1) (l.take k)++[(((lK aX n l k).length:Nat):Int)]) y aax M4
  have fA:=fun (y:Value)=>BL (bJ (aX.length+1) (l.take k)++[(((lK aX n l k).length:Nat):Int)]) y aax M4
  have bD:(List.zipWith ei (lK aX n l k) ql)[aX.length]?=some (ei (fg n (bJ (aX.length+1) (l.take k))) (.slice a3 (bJ (aX.length+1) (l.take k)).length c3)):=by rw [getElem?_zipWith,M4,hy];rfl
  have iQ:(List.zipWith kz (lK aX n l k) ql)[aX.length]?=some (.vech 3 1 (be (bJ (aX.length+1) (l.take k))) (.slice a3 (bJ (aX.length+1) (l.take k)).length c3)):=by rw [getElem?_zipWith,M4,hy];rfl
  have C1:aX.length < (List.zipWith ei (lK aX n l k) ql).length:=by rw [va];omega
  have eh:(be (bJ (aX.length+1) (l.take k))).length=(bJ (aX.length+1) (l.take k)).length:=by simp [be]
  have oz:be (bJ (aX.length+1) (l.take k)++[(((lK aX n l k).length:Nat):Int)])=be (bJ (aX.length+1) (l.take k))++[[.v (ii ((lK aX n l k).length:Nat))]]:=by simp [be]
  have qe:(bJ (aX.length+1) (l.take k)).length<=8388608:=by
   rw [Go.Xp.dy,gE];omega
  rw [oz] at fA
  have Bl:=fun (h:Value) (Ku:List Value) H2=>ih u X ((lK aX n l k).set aX.length (fg (fg n (bJ (aX.length+1) (l.take k))) (bJ (aX.length+1) (l.take k)++[(((lK aX n l k).length:Nat):Int)]))) h Ku H2 (by rw [length_set];omega)
  rw [length_set] at Bl;unfold da;generalize rH:bJ (aX.length+1) (l.take k)=ks at *;generalize hM:lK aX n l k=M at *;generalize hM2:M.set aX.length (fg (fg n ks) (ks++[((M.length:Nat):Int)]))=M2 at *
  have xI:∀ x:Ob,(x::List.zipWith kz M ql)[aX.length+1]?=some (.vech 3 1 (be ks) (.slice a3 ks.length c3)):=fun x=>iQ
  generalize List.zipWith kz M ql=O2 at *;generalize List.zipWith ei M ql=R2 at *;unfold ei fg at bD;refine Gw ?_;refine GL.aaU rfl rfl rfl rfl rfl rfl rfl ?_;refine zaN ?_;refine GL.fO (aX.length+1) rfl rfl rfl rfl rfl rfl rfl (xI _) eh jm ?_;intro a4 c4;refine ub vZ (by simp only [oset];rw [fA]) ?_;refine D ?_;refine Lt ?_;simp only [dJ];rw [hrk];have H2:=lg a4 c4;have nz:=vW H2;refine D ?_;refine GL.X9 [] (da M2 (.slice a2 M.length c2) (ql.set aX.length (.slice a4 (ks.length+1) c4))) (Bl _ _ H2) rfl Ai (fun _=>rfl) (vY) ?_;rintro _ _ ⟨h5,ns5,H5,rfl,rfl⟩;have hl5:=vW H5;rw [aL] at hl5;refine ⟨by rw [nz,hl5];omega,Ai,fun _=>rfl,?_⟩;rw [nil_append];refine zaN ?_;exact ⟨rfl,rfl,_,_,Wk.aH ao,h5,ns5,rfl,H5,rfl⟩
 ·rintro _ _ ⟨h',ql,rfl,HM,rfl⟩;rw [eH] at HM |-;rw [VK] at HM |-;have U8:=vW HM;refine bc ?_;unfold da;refine zdO ?_;refine la (n:=(da (aX++jJ aX.length (.mk n l)) h' ql).length) rfl cB rfl (by rw [U8,aL];omega) ?_ rfl ?_
  ·show vQ _ (List.take _ (da _ _ _))=true;rw [c7];exact NO Ai
  ·show ∃ G Ku,_/\_/\List.take _ (da _ _ _)=_;rw [c7];exact ⟨h',ql,HM,rfl,rfl⟩
end Go.Xg
set_option maxHeartbeats 2000000
namespace Go.Xg
open Go.RowKit Go.Xw Go.Proofs Go.Im
open Go.Sp (Src)
def TK (l:List Value) (i:Nat):Value:=(l[i]?).getD undef
theorem Uw {K:Fz} {β:Bt} {v a b c d:Value} (h:Rel K β v (.agg [.v a,.v b,.v c,.v d])):v=.agg #[a,b,c,d]:=by
 cases h with
 | agg vs cs hl h =>
  match vs,hl with
  | [x,y,z,u],_ =>
   rw [Rel.eJ (h 0 x _ rfl rfl),Rel.eJ (h 1 y _ rfl rfl),Rel.eJ (h 2 z _ rfl rfl),Rel.eJ (h 3 u _ rfl rfl)]
section
variable {B:Bs} {K:Fz} {β:Bt} {w:World} {l:List Value} {fr:List GV} {A C aeJ:List Ob} {p:Src} {hg ha hf hn:Value} {fs ns:List Value}
theorem Q3 (p:Src):∀ g∈aq p,g.pc=true:=fun g hg=>by
 simp only [aq,List.mem_cons,not_mem_nil,or_false] at hg
 rcases hg with rfl | rfl | rfl | rfl <;> rfl
end
end Go.Xg
namespace Go.Xg
open Go.RowKit Go.Xw Go.Proofs
open Go.Xp (Nd)
theorem Tj {K K':Fz} {β b9:Bt} {vs:List Value} {gs:List GV} (h:bC K β vs gs) (hg:∀ g∈gs,∃ x,g=.v x):bC K' b9 vs gs :=
 ⟨h.1,fun i v g I G=>by
  obtain ⟨x,rfl⟩:=hg g (bo G)
  rw [Rel.eJ (h.2 i v _ I G)];exact .v _⟩
def Ob.Ss:Ob->Prop
 | .vech _ _ rows _=>∀ r∈rows,∀ g∈r,∃ x,g=GV.v x
 | _=>False
def bkO:Ob->Bk
 | .vech _ _ rows x=>.gr x rows.length
 | _=>.no
def mP (N:List Ob):Bt:=fun i=>match N[i]? with
 | some x=>bkO x
 | none=>.no
structure Pk (N:List Ob) (h:Nat->Option Obj):Prop where
 plain:∀ x∈N,x.Ss
 dis:∀ i j b,(mP N i).has b->(mP N j).has b->i=j
 dom:∀ b,(h b).isSome=true↔∃ i,(mP N i).has b
 own:∀ w:World,(∀ b o,h b=some o->w.heap[b]?=some o)->∀ (i:Nat) E k rows x,N[i]?=some (.vech E k rows x)->kp k rows/\∃ xs,jH w 0 E k x rows.length xs/\bC (fun _ _=>none) (fun _=>.no) xs rows.flatten
abbrev blob (N:List Ob):Ob:=.blob (Pk N)
theorem AW {N:List Ob} {i:Nat} {x:Ob} (h:N[i]?=some x):mP N i=bkO x:=by unfold mP;rw [h]
theorem D9 {N:List Ob} {i:Nat} (h:N.length<=i):mP N i=.no:=by unfold mP;rw [getElem?_eq_none h]
theorem VN {w w':World} {base e k:Nat} {v:Value} {n:Nat} {xs:List Value} (h:jH w base e k v n xs) (hs:∀ b o,v.ownBlock=some b->w.heap[b]?=some o->w'.heap[b]?=some o):jH w' base e k v n xs:=by
 obtain ⟨I,G⟩:=h;refine ⟨I,?_⟩
 rcases G with G | ⟨g,cap,cur,rfl,hb,hg,r⟩
 ·exact .inl G
 ·exact .inr ⟨g,cap,cur,rfl,hb,hs g _ rfl hg,r⟩
theorem Pk.ob {N:List Ob} {h:Nat->Option Obj} {K:Fz} {β:Bt} {w:World} {i j:Nat} {x:Ob} (hp:Pk N h) (hh:∀ b o,h b=some o->w.heap[b]?=some o/\∀ j,K b j=none) (hx:N[j]?=some x) (nW:β i=mP N j):mz K β w i x:=by
 have cH:=hp.plain x (bo hx)
 cases x with
 | vech E k rows v =>
  obtain ⟨I,xs,G,h3⟩:=hp.own w (fun b o hb=>(hh b o hb).1) j E k rows v hx;refine ⟨xs,by rw [nW,AW hx];rfl,G,Tj h3 (fun g hg=>?_),I,fun b hb o=>?_⟩
  ·obtain ⟨r,mw,eR⟩:=List.mem_flatten.1 hg;exact cH r mw g eR
  ·have:(h b).isSome=true:=(hp.dom b).2 ⟨j,by rw [AW hx];exact hb⟩;obtain ⟨y,hy⟩:=Option.isSome_iff_exists.1 this;exact (hh b y hy).2 o
 | _=>exact cH.elim
theorem NR {K:Fz} {β:Bt} {w:World} {N:List Ob} (s:Nat) (hN:∀ x∈N,x.Ss) (ho:∀ (j:Nat) x,N[j]?=some x->mz K β w (s+j) x) (hd:∀ i j b,(β i).has b->(β j).has b->i=j) :
  ∃ h:Nat->Option Obj,(∀ b o,h b=some o->w.heap[b]?=some o/\∀ j,K b j=none)/\Pk N h/\∀ b,(h b).isSome=true->∃ j,j < N.length/\(β (s+j)).has b:=by
 classical
 have nW:∀ j,j < N.length->β (s+j)=mP N j:=fun j hj=>by
  have hx:N[j]?=some N[j]:=bV hj;have hp:=hN _ (bo hx);have h0:=ho j _ hx;rw [AW hx];generalize N[j]=x at *
  cases x with
  | vech E k rows v=>obtain ⟨xs,I,_⟩:=h0;exact I
  | _=>exact hp.elim
 have au:∀ j b,(mP N j).has b->j < N.length:=fun j b hb=>by
  rcases Nat.lt_or_ge j N.length with h | h
  ·exact h
  ·rw [D9 h] at hb;exact hb.elim
 have dj:∀ j b,(mP N j).has b->b < w.heap.size:=fun j b hb=>by
  have hj:=au j b hb;exact (ho j _ (bV hj)).lt (by rw [nW j hj];exact hb)
 refine ⟨fun b=>if ∃ j,(mP N j).has b then w.heap[b]? else none,fun b o hb=>?_,⟨hN,fun i j b hi hj=>?_,fun b=>?_,fun w' Xi i E k rows x hx=>?_⟩,fun b hb=>?_⟩
 ·simp only at hb;split at hb
  ·rename_i hj;refine ⟨hb,fun o=>?_⟩;obtain ⟨j,hj⟩:=hj;have qd:=au j b hj;have hx:N[j]?=some N[j]:=bV qd;have hp:=hN _ (bo hx);have h0:=ho j _ hx;rw [AW hx] at hj;generalize N[j]=x at *
   cases x with
   | vech E k rows v=>obtain ⟨xs,_,_,_,_,h5⟩:=h0;exact h5 b hj o
   | _=>exact hp.elim
  ·cases hb
 ·have I:=au i b hi;have G:=au j b hj;have:=hd (s+i) (s+j) b (by rw [nW i I];exact hi) (by rw [nW j G];exact hj);omega
 ·constructor
  ·intro h;split at h
   ·rename_i hj;exact hj
   ·cases h
  ·rintro ⟨j,hj⟩;rw [ah ⟨j,hj⟩];have:=dj j b hj;simp [this]
 ·have hp:=hN _ (bo hx);obtain ⟨xs,I,G,h3,h4,_⟩:=ho i _ hx;refine ⟨h4,xs,VN G fun b o hb vl=>Xi b o ?_,Tj h3 fun g hg=>?_⟩
  ·show (if ∃ j,(mP N j).has b then w.heap[b]? else none)=some o;rw [ah ⟨i,by rw [AW hx];exact hb⟩];exact vl
  ·obtain ⟨r,mw,eR⟩:=List.mem_flatten.1 hg;exact hp r mw g eR
 ·simp only at hb;split at hb
  ·rename_i hj;obtain ⟨j,hj⟩:=hj;have qd:=au j b hj;exact ⟨j,qd,by rw [nW j qd];exact hj⟩
  ·cases hb
section
variable {B:Bs} {K:Fz} {β:Bt} {Γ:List Ob} {w:World}
theorem Inv.unpack {i:Nat} {N:List Ob} (hI:Inv B K β Γ w) (bH:Γ[i]?=some (blob N)) :
  ∃ b9,eg β b9/\(∀ j,j < N.length->b9 (Γ.length+j)=mP N j)/\(∀ j b,(b9 j).has b->∃ q,(β q).has b)/\Inv B K b9 (oset Γ i .gone++N) w:=by
 obtain ⟨h,e,hh,hp⟩:=hI.ob i _ bH;have hi:=(bB bH).1
 have kO:∀ b,(β i).has b↔(h b).isSome=true:=fun b=>by rw [e];exact Iff.rfl
 have wW:(oset Γ i .gone).length=Γ.length:=by rw [bQ,length_set]
 have e0:∀ j,j < Γ.length->(if j < Γ.length then (if j=i then Bk.no else β j) else mP N (j - Γ.length))=if j=i then Bk.no else β j:=fun j hj=>ah hj
 have e1:∀ j,Γ.length<=j->(if j < Γ.length then (if j=i then Bk.no else β j) else mP N (j - Γ.length))=mP N (j - Γ.length):=fun j hj=>ab X
 have hle:eg β (fun j=>if j < Γ.length then (if j=i then Bk.no else β j) else mP N (j - Γ.length)):=fun j=>by
  rcases Nat.lt_or_ge j Γ.length with hj | hj
  ·simp only [e0 j hj]
   by_cases lS:j=i
   ·subst lS;rw [e];trivial
   ·rw [ab lS];exact vD.refl _
  ·rw [hI.out j hj];trivial
 have hN:∀ j b,(mP N j).has b->(β i).has b:=fun j b hb=>(kO b).2 ((hp.dom b).2 ⟨j,hb⟩)
 have Bi:∀ j b,((fun j=>if j < Γ.length then (if j=i then Bk.no else β j) else mP N (j - Γ.length)) j).has b->(j < Γ.length/\j≠i/\(β j).has b)\/(Γ.length<=j/\(mP N (j - Γ.length)).has b):=fun j b hb=>by
  rcases Nat.lt_or_ge j Γ.length with hj | hj
  ·simp only [e0 j hj] at hb
   by_cases lS:j=i
   ·rw [ah lS] at hb;exact hb.elim
   ·rw [ab lS] at hb;exact .inl ⟨hj,lS,hb⟩
  ·simp only [e1 j hj] at hb;exact .inr ⟨hj,hb⟩
 have hq:∀ j b,((fun j=>if j < Γ.length then (if j=i then Bk.no else β j) else mP N (j - Γ.length)) j).has b->∃ q,(β q).has b:=fun j b hb=>by
  rcases Bi j b hb with ⟨_,_,I⟩ | ⟨_,I⟩
  ·exact ⟨j,I⟩
  ·exact ⟨i,hN _ b I⟩
 generalize J4:(fun j=>if j < Γ.length then (if j=i then Bk.no else β j) else mP N (j - Γ.length))=b9 at *;refine ⟨b9,hle,fun j hj=>?_,hq,hI.ext,hI.kle,hI.ble.trans hle,hI.loc,hI.fz,fun j x hj=>?_,fun j hj=>?_,fun a c b ha hc=>?_,fun j b hj=>?_,hI.kn,hI.tab.step (S:=iI) (Ext.refl w) (fun _ h=>h.elim) (df.refl K) (fun j b hj=>.inl (hq j b hj))⟩
 ·subst J4;simp only;rw [ab X,Nat.add_sub_cancel_left]
 ·rcases Nat.lt_or_ge j Γ.length with hl | hl
  ·rw [gm X,bQ,fb] at hj
   by_cases lS:i=j
   ·rw [ah lS,ah hi] at hj;cases hj;show b9 j=.no;subst J4;simp only;rw [ah hl,ah lS.symm]
   ·rw [ab lS] at hj;exact (hI.ob j x hj).ext (S:=iI) (Ext.refl w) (fun _ _ h=>h) (df.refl K) hle (by subst J4;simp only;rw [ah hl,ab (fun e=>lS e.symm)]) (fun _ _ _ h=>h)
  ·rw [gR X,wW] at hj;exact hp.ob hh hj (by subst J4;simp only;rw [ab X])
 ·rw [aL,wW] at hj;subst J4;simp only;rw [ab X,D9 X]
 ·rcases Bi a b ha with ⟨a1,a2,a3⟩ | ⟨a1,a2⟩ <;> rcases Bi c b hc with ⟨c1,c2,c3⟩ | ⟨c1,c2⟩
  ·exact hI.dis a c b a3 c3
  ·exact absurd (hI.dis a i b a3 (hN _ b c2)) a2
  ·exact absurd (hI.dis c i b c3 (hN _ b a2)) c2
  ·have:=hp.dis _ _ b a2 c2;omega
 ·obtain ⟨q,hq⟩:=hq j b hj;exact hI.own q b hq
end
section
variable {P:Program} {m:Nat} {fr:List GV} {Γ:List Ob}
theorem Wk.unpack (i:Nat) {N:List Ob} (bH:Γ[i]?=some (blob N)):Wk m fr Γ fr (oset Γ i .gone++N):=fun B K β w l hB hI hF=>by
 obtain ⟨b9,I,_,_,h4⟩:=hI.unpack bH;exact ⟨K,b9,h4,hF.mono (df.refl K) I⟩
theorem Wk.pack (A N:List Ob) (bH:Γ=A++N) (hm:m<=A.length) (hN:∀ x∈N,x.Ss) (hA:vQ A.length A=true):Wk m fr Γ (yc A.length fr) (A++[blob N]):=fun B K β w l hB hI hF=>by
 have AJ:∀ (j:Nat) x,N[j]?=some x->Γ[A.length+j]?=some x:=fun j x hj=>by rw [bH,gR X,Nat.add_sub_cancel_left];exact hj
 obtain ⟨h,hh,hp,hd⟩:=NR (K:=K) (β:=β) (w:=w) A.length hN (fun j x hj=>hI.ob _ x (AJ j x hj)) hI.dis
 have oW:Γ.take A.length=A:=by rw [bH];simp
 have hc:=hI.cut (n:=A.length) X (by rw [oW];exact hA);rw [oW] at hc;have JL:fi (below A.length) β A.length=.no:=rA (ux (aI _));have hold:eg (fi (below A.length) β) (fZ (fi (below A.length) β) A.length (.set fun b=>(h b).isSome=true)):=kq (by rw [JL];trivial)
 have cS:∀ b,(h b).isSome=true->∀ i,¬ (fi (below A.length) β i).has b:=fun b hb i hi=>by
  obtain ⟨j,_,hj⟩:=hd b hb
  by_cases lR:i < A.length
  ·rw [jg (yv lR)] at hi;have:=hI.dis i _ b hi hj;omega
  ·rw [rA (ux X)] at hi;cases hi
 refine ⟨K,fZ (fi (below A.length) β) A.length (.set fun b=>(h b).isSome=true),?_,(hF.res).mono (df.refl K) hold⟩;refine ⟨hc.ext,hc.kle,hc.ble.trans hold,hc.loc,hc.fz,fun i z hi=>?_,fun i hi=>?_,fun i i' b hi hj=>?_,fun i b hi=>?_,hc.kn,⟨hc.tab.le,hc.tab.pow,hc.tab.spc,fun i b hi=>?_⟩⟩
 ·by_cases ue:i < A.length
  ·rw [gm X] at hi;exact (hc.ob i z hi).ext (S:=iI) (Ext.refl w) (fun _ _ h=>h) (df.refl K) hold (bU X) (fun _ _ _ h=>h)
  ·have:i=A.length:=by have:=(bB hi).1;rw [aL,length_singleton] at this;omega
   subst this;rw [gR X,tZ] at hi;cases hi;exact ⟨h,bI,hh,hp⟩
 ·rw [aL,length_singleton] at hi;rw [bU X];exact rA (ux X)
 ·by_cases I:i=A.length <;> by_cases G:i'=A.length
  ·omega
  ·subst I;rw [bI] at hi;rw [bU G] at hj;exact absurd hj (cS b hi i')
  ·subst G;rw [bI] at hj;rw [bU I] at hi;exact absurd hi (cS b hj i)
  ·rw [bU I] at hi;rw [bU G] at hj;exact hc.dis i i' b hi hj
 ·rcases mJ hi with I | I
  ·obtain ⟨j,_,hj⟩:=hd b I;exact hI.own _ b hj
  ·exact hc.own i b I
 ·rcases mJ hi with I | I
  ·obtain ⟨j,_,hj⟩:=hd b I;exact hI.tab.free _ b hj
  ·exact hc.tab.free i b I
end
theorem GC.blob {P:Program} {f:FuncId} {gs:List GV} {N:List Ob} {R:GV->List Ob->Prop} (hc:GC P f gs N R) (hR:∀ g Δ,R g Δ->(∀ x∈Δ,x.Ss)/\∃ x,g=.v x) :
  GC P f gs [Go.Xg.blob N] fun g Δ=>∃ N',R g N'/\Δ=[Go.Xg.blob N']:=fun B K β w vs hB hI hF=>by
 obtain ⟨h,e,hh,hp⟩:=hI.ob 0 _ rfl
 have kO:∀ b,(β 0).has b↔(h b).isSome=true:=fun b=>by rw [e];exact Iff.rfl
 have hN:∀ j b,(mP N j).has b->(β 0).has b:=fun j b hb=>(kO b).2 ((hp.dom b).2 ⟨j,hb⟩)
 have hle:eg β (fun j=>mP N j)->bC K (mP N) vs gs:=fun hb=>hF.mono (df.refl K) hb
 have cS:∀ i,0 < i->β i=.no:=fun i hi=>hI.out i hi
 have hB1:eg β (mP N):=fun j=>by
  rcases Nat.eq_zero_or_pos j with hj | hj
  ·subst hj;rw [e];trivial
  ·rw [cS j hj];trivial
 have hI1:Inv (cur K (mP N) N w) K (mP N) N w :=
  ⟨Ext.refl w,df.refl K,eg.refl _,fun i hi=>D9 hi,hI.fz,fun i x hx=>hp.ob hh hx rfl,fun i hi=>D9 hi,hp.dis,fun i b hb=>.inl ⟨i,hb⟩,fun _ _ _ h=>.inl h,hI.tab.step (S:=iI) (Ext.refl w) (fun _ h=>h.elim) (df.refl K) (fun j b hj=>.inl ⟨0,hN j b hj⟩)⟩
 refine (hc _ K (mP N) w vs rfl hI1 (hle hB1)).mono ?_;rintro v w' ⟨K',b9,g,aZ,bE,hr,hRg⟩;obtain ⟨cH,x,rfl⟩:=hR g aZ hRg;obtain ⟨h',hh',mH,Eu⟩:=NR (K:=K') (β:=b9) (w:=w') 0 cH (fun j x hj=>by rw [dJ];exact bE.ob j x hj) bE.dis
 have qb:∀ b,(h' b).isSome=true->∃ j,(b9 j).has b:=fun b hb=>by obtain ⟨j,_,hj⟩:=Eu b hb;exact ⟨0+j,hj⟩
 have zR:∀ b,blocks (mP N) b->(β 0).has b:=fun b ⟨j,hj⟩=>hN j b hj
 refine ⟨K',fun i=>if i=0 then .set (fun b=>(h' b).isSome=true) else .no,.v x,[Go.Xg.blob aZ],?_,hr.pc rfl,aZ,hRg,rfl⟩
 have h0:∀ i b,((fun i=>if i=0 then Bk.set (fun b=>(h' b).isSome=true) else .no) i).has b->i=0/\(h' b).isSome=true:=fun i b hb=>by
  simp only at hb;split at hb
  ·rename_i hi;exact ⟨hi,hb⟩
  ·exact hb.elim
 refine ⟨hI.ext.step bE.ext (fun j hj=>(hI.own 0 j (zR j hj)).symm),hI.kle.trans bE.kle,fun i=>?_,hI.loc,bE.fz,fun i z hi=>?_,fun i hi=>?_,fun i j b hi hj=>?_,fun i b hi=>?_,fun b o g hg=>?_,bE.tab.step (S:=iI) (Ext.refl w') (fun _ h=>h.elim) (df.refl K') (fun i b hi=>.inl (qb b (h0 i b hi).2))⟩
 ·have:=hI.ble i
  rcases Nat.eq_zero_or_pos i with hi | hi
  ·subst hi;rw [e] at this;generalize B.β0 0=y at this
   cases y with
   | no=>trivial
   | set S=>trivial
   | fix b=>cases this
   | gr a b=>obtain ⟨_,_,h,_⟩:=this;cases h
  ·rw [hI.loc i (by rw [hB];exact hi)];trivial
 ·cases i with
  | zero =>
   cases hi;exact ⟨h',rfl,hh',mH⟩
  | succ i=>simp at hi
 ·show (if i=0 then Bk.set (fun b=>(h' b).isSome=true) else .no)=.no;rw [ab (by have:(1:Nat)<=i:=hi;omega)]
 ·rw [(h0 i b hi).1,(h0 j b hj).1]
 ·obtain ⟨j,hj⟩:=qb b (h0 i b hi).2
  rcases bE.own j b hj with I | I
  ·exact hI.own 0 b (zR b I)
  ·exact .inr (jV hI.ext.size I)
 ·rcases bE.kn b o g hg with I | I | I
  ·exact hI.kn b o g I
  ·exact .inr (hI.own 0 b (zR b I))
  ·exact .inr (.inr (jV hI.ext.size I))
theorem EX {aX:List Nd} {h:Value} {ns:List Value}:∀ x∈da aX h ns,x.Ss:=fun x hx=>by
 rcases fh hx with rfl | hx
 ·intro r hr g hg;obtain ⟨i,hi⟩:=getElem?_of_mem hr;rw [getElem?_zipWith] at hi;split at hi
  ·cases hi;unfold ei at hg;simp only [List.mem_cons,not_mem_nil,or_false] at hg
   rcases hg with rfl | rfl | rfl | rfl | rfl <;> exact ⟨_,rfl⟩
  ·cases hi
 ·obtain ⟨i,hi⟩:=getElem?_of_mem hx;rw [getElem?_zipWith] at hi;split at hi
  ·cases hi;intro r hr g hg;obtain ⟨s,_,rfl⟩:=vb.1 hr;rw [xq hg];exact zfd
  ·cases hi
theorem Inv.xT {B:Bs} {K:Fz} {β:Bt} {Γ A:List Ob} {w:World} {aX:List Nd} {h:Value} {ns:List Value} (hI:Inv B K β Γ w) (H:rU aX h ns) (bH:Γ=A++da aX h ns) (hm:B.m<=A.length) (hA:vQ A.length A=true) :
  ∃ K',df K K'/\Rel K' (fun _=>.no) h (.sl 5 (aX.map aV))/\Inv B K' (fi (below A.length) β) A w:=by
 have hl:=H.len
 have hN:∀ i,i < aX.length->aX[i]?=some (aX.getD i ⟨0,0,0,[],[]⟩)/\ns[i]?=some (TK ns i):=fun i hi=>by
  unfold TK;rw [List.getD_eq_getElem?_getD,bV hi,bV (show i < ns.length by omega)];exact zah
 have g3:Γ[A.length]?=some (.vech 78 5 (List.zipWith ei aX ns) h):=by rw [bH,gR (aI _),tZ];rfl
 have gN:∀ i,i < aX.length->Γ[A.length+1+i]?=some (.vech 3 1 (be (aX.getD i ⟨0,0,0,[],[]⟩).kids) (TK ns i)):=fun i hi=>by
  rw [bH,gR X,show A.length+1+i - A.length=i+1 by omega];unfold da;rw [List.getElem?_cons_succ,Ua (hN i hi).1 (hN i hi).2];rfl
 obtain ⟨K2,Oj,R2,k2,i2,f2,l2,r2,o2⟩:=hI.KP (jf:=A.length) (N:=aX.length) (o:=4) (E:=3) (k':=1) (raw:=fun i=>ei (aX.getD i ⟨0,0,0,[],[]⟩) (TK ns i)) (fin:=fun i=>aV (aX.getD i ⟨0,0,0,[],[]⟩)) (ks:=fun i=>be (aX.getD i ⟨0,0,0,[],[]⟩).kids) (hd:=fun i=>TK ns i) (jp:=fun i=>A.length+1+i)
  g3 ⟨by rw [va];omega,fun i hi=>Ua (hN i hi).1 (hN i hi).2⟩ (fun i hi=>⟨rfl,rfl⟩) gN (fun i hi=>by omega) (fun i j _ _ h=>by omega)
 have e2:R2=aX.map aV:=by
  apply ext_getElem?;intro i
  by_cases hi:i < aX.length
  ·rw [r2 i hi,bp,(hN i hi).1];rfl
  ·rw [getElem?_eq_none X,getElem?_eq_none zgr]
 rw [e2] at f2;obtain ⟨K3,k3,q3,i3⟩:=i2.sr f2
 have oW:(oset Oj A.length (.vec 78 5 (aX.map aV).length (aX.map aV))).take A.length=A:=by
  apply ext_getElem?;intro q;rw [List.getElem?_take];split
  ·rw [bQ,fb,ab X,o2 q X (fun i _=>by omega),bH,gm X]
  ·rw [getElem?_eq_none X]
 have i4:=i3.cut (n:=A.length) hm (by rw [oW];exact hA);rw [oW] at i4;exact ⟨K3,k2.trans k3,q3.pc rfl,i4⟩
theorem Wk.xT {m:Nat} {fr:List GV} {Γ:List Ob} (A:List Ob) {aX:List Nd} {h:Value} {ns:List Value} {i o:Nat} {T:TypeId} {cs:List GV} (H:rU aX h ns) (bH:Γ=A++da aX h ns) (hm:m<=A.length) (hA:vQ A.length A=true) (hi:A[i]?=some (.box T cs)) (ho:cs[o]?=some (.v h)) :
  Wk m fr Γ (yc A.length fr) (oset A i (.box T (bX cs o (.sl 5 (aX.map aV))))):=fun B K β w l hB hI hF=>by
 obtain ⟨K',hK,hr,bE⟩:=hI.xT H bH X hA;obtain ⟨b,vs,I,G,h3,h4⟩:=bE.ob i _ hi;exact ⟨K',_,bE.swap ⟨b,vs,I,G,bC.bX (hr.pc rfl) h3 ho,h4⟩,(hF.res).mono hK (eg.refl _)⟩
def Ob.w7:Ob->Bool
 | .vech _ _ _ _=>true
 | .blob _=>true
 | .box _ cs=>th cs
 | _=>false
theorem Inv.XG {B:Bs} {K:Fz} {β:Bt} {Γ:List Ob} {w:World} (h:Inv B K β Γ w) {aY:List Nat} (hm:∀ j,j < B.m->aY[j]?=some j) {Δ:List Ob} (hl:Δ.length=aY.length) (hn:aY.Nodup)
  (hx:∀ (j:Nat) x,Δ[j]?=some x->x.w7=true/\∀ i,aY[j]?=some i->Γ[i]?=some x):Inv B K (jO β aY) Δ w:=by
 have hb:∀ i b,(jO β aY i).has b->∃ q,aY[i]?=some q/\(β q).has b:=fun i b hi=>by
  unfold jO at hi
  cases hs:aY[i]? with
  | none=>rw [hs] at hi;cases hi
  | some q=>rw [hs] at hi;exact ⟨q,rfl,hi⟩
 refine ⟨h.ext,h.kle,fun i=>?_,h.loc,h.fz,fun i x hi=>?_,fun i hi=>?_,fun i j b hi hj=>?_,fun i b hi=>?_,h.kn,h.tab.step (S:=iI) (Ext.refl w) (fun _ h=>h.elim) (df.refl K) (fun i b2 G=>?_)⟩
 ·rcases Nat.lt_or_ge i B.m with hi | hi
  ·have:jO β aY i=β i:=by unfold jO;rw [hm i hi]
   rw [this];exact h.ble i
  ·rw [h.loc i hi];trivial
 ·obtain ⟨I,G⟩:=hx i x hi;have au:=(bB hi).1;have hs:aY[i]?=some (aY[i]'X):=bV _
  have nW:jO β aY i=β (aY[i]'X):=by unfold jO;rw [hs]
  cases x with
  | vech E k rows v =>
   obtain ⟨xs,e1,e2,e3,e4,e5⟩:=h.ob _ _ (G _ hs);exact ⟨xs,nW.trans e1,e2,e3.th e4.flat,e4,e5⟩
  | blob p =>
   obtain ⟨g,e1,e2,e3⟩:=h.ob _ _ (G _ hs);exact ⟨g,nW.trans e1,e2,e3⟩
  | box E cs =>
   obtain ⟨b,vs,e1,e2,e3,e4⟩:=h.ob _ _ (G _ hs);exact ⟨b,vs,nW.trans e1,e2,e3.th (o8 I),e4⟩
  | _=>cases I
 ·unfold jO;rw [getElem?_eq_none X]
 ·exact zbl
 ·obtain ⟨q,I,G⟩:=hb i b hi;exact h.own q b G
 ·obtain ⟨q,h3,h4⟩:=hb i b2 G;exact .inl ⟨q,h4⟩
theorem MV {P:Program} {fn:Func} {R:GV->List Ob->Prop} {fr:List GV} {Γ:List Ob} {e:Exit} {t u s:Tmp} {T:TypeId} {k:Nat} [hT:Ty P T true k] {i:Nat} {E:TypeId} {cs:List GV} {y z:Value} (n:Nat) (hr:fn.results=#[.cell t T,.tmp u,.tmp s]) (he:e=.normal\/e=.ret) (hg:dc fr t=.loc i 0) (bH:Γ[i]?=some (.box E cs)) (hk:cs.length=k) (hp:th cs=true) (iO:dc fr u=.v y) (RV:dc fr s=.v z)
  (ha:∀ x∈Γ.drop n,x.w7=true) (h:R (.tup [.agg cs,.v y,.v z]) (Γ.drop n)):wL P fn 0 R e fr Γ :=
 ⟨he,fun B K β w l hB hI hF=>by
  obtain ⟨b,vs,I,G,h3,h4⟩:=hI.ob i _ bH
  have Sa:nth l t=.pointer (some ⟨b,0,none⟩):=by
   have:=hF.nth t;rw [hg] at this;generalize nth l t=v at this
   cases this with
   | loc _ _ b' bG=>rw [I] at bG;cases bG;rfl
  have mH:l.toArray.getD t undef=.pointer (some ⟨b,0,none⟩):=by rw [kX,Sa]
  have EA:=pe (P:=P) (w:=w) (t:=T) (b:=b) (o:=0) (vs:=vs) (k:=k) zgS (fun j v hj=>by
   rw [dJ,cell_of_row w b j _ E (0,0) G];simpa using hj)
  have zU:l[t]?.getD undef=.pointer (some ⟨b,0,none⟩):=by simpa using mH
  have h5:bC K (jO β ((List.range (Γ.length - n)).map (·+n))) vs cs:=h3.th (o8 hp);have hu:nth l u=y:=Rel.eJ (by rw [<-iO];exact hF.nth u);have hs:nth l s=z:=Rel.eJ (by rw [<-RV];exact hF.nth s);have JY:(Γ.drop n).length=((List.range (Γ.length - n)).map (·+n)).length/\((List.range (Γ.length - n)).map (·+n)).Nodup /\
   ∀ (j:Nat) x,(Γ.drop n)[j]?=some x->x.w7=true/\∀ i,((List.range (Γ.length - n)).map (·+n))[j]?=some i->Γ[i]?=some x:=by
   refine ⟨by simp,?_,fun j x hj=>⟨ha x (bo hj),fun i hi=>?_⟩⟩
   ·unfold List.Nodup;rw [List.pairwise_map]
    exact (List.nodup_range (n:=Γ.length - n)).imp fun cj he=>cj X
   ·rw [List.getElem?_drop] at hj;rw [bp] at hi
    cases hr:(List.range (Γ.length - n))[j]? with
    | none=>rw [hr] at hi;cases hi
    | some q =>
     rw [hr] at hi;cases hi;have:=(List.getElem?_range (by have:=(bB hr).1;simpa using this)).symm.trans hr;cases this;show Γ[j+n]?=some x;rw [Nat.add_comm];exact hj
  refine ⟨.tuple #[.agg vs.toArray,y,z],K,jO β ((List.range (Γ.length - n)).map (·+n)),.tup [.agg cs,.v y,.v z],Γ.drop n,?_,hI.XG (fun j hj=>by rw [hB] at hj;exact absurd hj (Nat.not_lt_zero j)) JY.1 JY.2.1 JY.2.2,?_,h⟩
  ·rw [<-hu,<-hs,<-kX l u,<-kX l s];exact zeu
  ·have hc:bC K (jO β ((List.range (Γ.length - n)).map (·+n))) [.agg vs.toArray,y,z] [.agg cs,.v y,.v z]:=.cons (.agg vs cs h5.1 h5.2) (.cons (.v _) (.cons (.v _) .nil))
   exact .tup [.agg vs.toArray,y,z] _ hc.1 hc.2⟩
theorem Wk.PH {m:Nat} {fr:List GV} {Γ:List Ob} (hm:m<=Γ.length) (hA:vQ Γ.length Γ=true):Wk m fr Γ (yc Γ.length fr) (Γ++[blob (da [] (.slice none 0 0) [])]) :=
 (Wk.gK 78 5).trans (Wk.pack Γ (da [] (.slice none 0 0) []) rfl hm EX hA)
theorem rU.nil:rU [] (.slice none 0 0) []:=⟨⟨none,0,rfl⟩,rfl,fun i x y h=>by simp at h⟩
def KC (Γ:List Ob):List Nat->List Ob->Prop
 | [],[]=>True
 | i::r,x::xs=>(Γ[i]?=some x/\x.w7=true)/\KC Γ r xs
 | _,_=>False
theorem De {Γ:List Ob}:∀ {aY:List Nat} {Δ:List Ob},KC Γ aY Δ->Δ.length=aY.length/\∀ (j:Nat) x,Δ[j]?=some x->x.w7=true/\∀ i,aY[j]?=some i->Γ[i]?=some x
 | [],[],_=>⟨rfl,fun j x h=>by simp at h⟩
 | i::r,x::xs,h=>by
  obtain ⟨I,G⟩:=De h.2;refine ⟨by simp [I],fun j y hj=>?_⟩
  cases j with
  | zero=>cases hj;exact ⟨h.1.2,fun i' hi=>by cases hi;exact h.1.1⟩
  | succ j=>exact G j y zgp
 | [],_::_,h=>h.elim
 | _::_,[],h=>h.elim
theorem WK {P:Program} {fn:Func} {m:Nat} {R:GV->List Ob->Prop} {fr:List GV} {Γ:List Ob} {e:Exit} {t:Tmp} {T:TypeId} {k:Nat} [hT:Ty P T true k] {i:Nat} {E:TypeId} {cs:List GV} (aY:List Nat) (Δ:List Ob) (hr:fn.results=#[.cell t T]) (he:e=.normal\/e=.ret) (hg:dc fr t=.loc i 0) (bH:Γ[i]?=some (.box E cs)) (hk:cs.length=k) (hp:th cs=true)
  (hs:aY.Nodup) (hm:aY.take m=List.range m) (hx:KC Γ aY Δ) (h:R (.agg cs) Δ):wL P fn m R e fr Γ :=
 ⟨he,fun B K β w l hB hI hF=>by
  obtain ⟨b,vs,I,G,h3,h4⟩:=hI.ob i _ bH
  have Sa:nth l t=.pointer (some ⟨b,0,none⟩):=by
   have:=hF.nth t;rw [hg] at this;generalize nth l t=v at this
   cases this with
   | loc _ _ b' bG=>rw [I] at bG;cases bG;rfl
  have mH:l.toArray.getD t undef=.pointer (some ⟨b,0,none⟩):=by rw [kX,Sa]
  have EA:=pe (P:=P) (w:=w) (t:=T) (b:=b) (o:=0) (vs:=vs) (k:=k) zgS (fun j v hj=>by
   rw [dJ,cell_of_row w b j _ E (0,0) G];simpa using hj)
  have zU:l[t]?.getD undef=.pointer (some ⟨b,0,none⟩):=by simpa using mH
  have h5:bC K (jO β aY) vs cs:=h3.th (o8 hp);obtain ⟨x1,x2⟩:=De hx;refine ⟨.agg vs.toArray,K,jO β aY,.agg cs,Δ,?_,hI.XG (fun j hj=>?_) x1 hs x2,.agg vs cs h5.1 h5.2,h⟩
  ·exact zeu
  ·rw [hB] at hj
   have hj2:(aY.take m)[j]?=some j:=by rw [hm];exact List.getElem?_range hj
   rw [List.getElem?_take,ah hj] at hj2
   exact hj2⟩
def PN (n:Nat) (r:List GV):Bool:=match r with
 | [.v (.string b)]=>Nat.ble b.data.size n
 | _=>false
theorem Zu {n m:Nat} {rows:List (List GV)} (h:rows.all (PN n)=true) (hm:m < rows.length):∃ s:ae,rows[m]?=some [.v (sv s)]/\s.length<=n:=by
 have hx:rows[m]?=some rows[m]:=bV hm;have I:=jb.1 h rows[m] (bo hx);rw [hx];generalize rows[m]=r at *;unfold PN at I;split at I
 ·rename_i b;refine ⟨b.data.toList,?_,by simpa using I⟩;rw [<-acJ]
 ·cases I
section
variable {P:Program} {m:Nat} {Q:eC} {fr:List GV} {Γ:List Ob} {ops:Array Oper} {rest:List Oper} {ty:TypeId} {pos:String} {af:Array Edge}
theorem AF {g:GV}:∀ {fr:List GV} {t:Nat},ly fr t=true->dc (bX fr t g) t=g
 | [],t,h=>by cases h
 | x::fr,0,h=>rfl
 | x::fr,t+1,h=>AF (fr:=fr) (t:=t) h
theorem GL.Ir {x y:Operand} {d1 d2:Tmp} {t e t2:TypeId} [hT:pW P t e 1] [hT2:Ty P t2 false 1] {TH:TypeId} {KE:String} {GQ:Array Edge} (n:Nat) {q:Nat} {rows:List (List GV)} {kk:IntKind} (hx:bq fr x=.sl 1 rows) (hy:bq fr y=.v (.int kk q)) (hr:rows.all (PN n)=true) (hq:q < rows.length) (lR:ly fr d1=true)
  (h:∀ s:ae,s.length<=n->GL P m ops Q rest (bR (bR fr (some d1) (.box [.v (sv s)] 0)) (some d2) (.v (sv s))) Γ) :
  GL P m ops Q (⟨some d1,.indexAddr t x y,ty,pos,af,none⟩::⟨some d2,.load t2 (.tmp d1),TH,KE,GQ,none⟩::rest) fr Γ:=by
 obtain ⟨s,hs,hl⟩:=Zu hr hq;refine GL.q (YG.hO hx hy hs) ?_;refine GL.q (YG.ldB (cs:=[.v (sv s)]) (o:=0) ?_ rfl) (h s hl);exact AF lR
end
theorem YG.jS {P:Program} {fr:List GV} {Γ:List Ob} {x y:Operand} {t e:TypeId} {k:Nat} [hT:pW P t e k] (i:Nat) {v:Value} {kk:IntKind} {j E n:Nat} {rows:List (List GV)} (hx:bq fr x=.v v) (hy:bq fr y=.v (.int kk j)) (bH:Γ[i]?=some (.vech E k rows v)) (hn:rows.length=n) (hj:j < n):YG P (.indexAddr t x y) fr Γ (.vp i n k j 0):=by
 subst hn;exact YG.aP i hx hy bH hj
theorem YG.Xq {P:Program} {fr:List GV} {Γ:List Ob} {x y:Operand} {t e:TypeId} {k:Nat} [hT:pW P t e k] (i j:Nat) {v:Value} {kk:IntKind} {z:Int} {E n:Nat} {rows:List (List GV)} (hx:bq fr x=.v v) (hy:bq fr y=.v (.int kk z)) (hz:z=(j:Int)) (bH:Γ[i]?=some (.vech E k rows v)) (hn:rows.length=n) (hj:j < n):YG P (.indexAddr t x y) fr Γ (.vp i n k j 0):=by
 subst hz;exact YG.jS i hx hy bH hn hj
end Go.Xg
set_option maxHeartbeats 4000000
namespace Go.Xg
open Go.RowKit Go.Xw Go.Proofs Tryz Go.Sp Go.Im
open Go.Xp (Ar jU)
attribute [local irreducible] GW GL GO YG GC GA aU aW
def ZH (p:RS) (gl:List ae) (ve:List Ar) (hf hn:Value) (g:GV) (Δ:List Ob):Prop :=
 ∃ q gl' ars' nw ha',p.to q/\Hd gl'.length nw/\Hd ars'.length ha'/\(q.code=0->p.i < q.i/\∀ fs aX,PB ⟨gl,ve,fs,aX⟩ p.i->PB ⟨gl',ars',fs,aX⟩ q.i) /\
  g=.agg [.v nw,.v ha',.v hf,.v hn]/\Δ=[bW q,.vech 9 1 (br gl') nw,.vech 98 2 (ars'.map bg) ha']
theorem EV {p:RS} {s:ae} (hs:s≠[]) (h:(p.aR s).code=0):p.i < (p.aR s).i:=by
 rw [(uF hs h).1];exact Nat.lt_succ_self _
theorem Vq (p:RS) (hp:p.ok) (hb:SB p) (gl:List ae) (ve:List Ar) (hg ha hf hn:Value) (Hg:Hd gl.length hg) (Ha:Hd ve.length ha) {nf nn:Nat} (Hf:Hd nf hf) (Hn:Hd nn hn) (kQ:gl.length<=1000000) (hal:ve.length<=1000000) :
  GC prog 160 [.loc 0 0,.agg [.v hg,.v ha,.v hf,.v hn]] [bW p,.vech 9 1 (br gl) hg,.vech 98 2 (ve.map bg) ha] (ZH p gl ve hf hn):=by
 obtain ⟨ag,cg,rfl⟩:=Hg;obtain ⟨aa,ca,rfl⟩:=Ha;obtain ⟨af,cf,rfl⟩:=Hf;obtain ⟨an,cn,rfl⟩:=Hn;have aee:(br gl).length=gl.length:=bM _;have U2:(ve.map bg).length=ve.length:=bM _;have m1:=c9 p jU hp aD;have t1:=bL hp (s:=jU) aD;have o1:=t1.ok hp;have i1:(p.aR jU).code=0->p.i < (p.aR jU).i:=EV aD;generalize p.aR jU=p1 at *;have m2:=q6 p1 o1;have t2:=t1.trans (fj o1);have o2:=t2.ok hp;have nl:=ra p1
 have ne:¬ p1.code=0->¬ p1.name.2.code=0:=fun h=>by rw [DQ h];exact h
 have le:=(fj o1).2.2.2;generalize p1.name=nm at *;obtain ⟨s,p2⟩:=nm;simp only at m2 t2 o2 nl ne le;have m3:=dw p2 0 o2 aD
 by_cases hs:p2.sign 0=[91]
 ·have pA:(p2.sign 0==[91])=true:=by rw [hs];rfl
  have au:=dH hs aD;have hz2:=au.2;have au:=au.1;rw [Nat.add_zero] at au;have cH:=o2.2;have t3:=t2.trans (cX au);have o3:=t3.ok hp;have wM:=hb.to t3
  have li:p2.next.i=p2.i+1:=rfl
  have ls:p2.next.l=p2.l:=rfl
  have lc:p2.next.code=p2.code:=rfl
  have m4:GF prog 163 [.loc 0 0] [bW p2.next] (.v (ii p2.next.place)) [bW p2.next]:=lC _ o3;have t4:=t3.trans (Oe o3);have o4:=t4.ok hp;have hz:=V3 wM;have le4:=(Oe o3).2.2.2
  have fin:∀ (z:Int) (p4:RS),su p2.next=(z,p4)->GF prog 216 [.loc 0 0,.v (sv [93])] [bW p4] (.tup []) [bW (p4.aR [93])]/\GF prog 216 [.loc 0 0,.v (sv [59])] [bW (p4.aR [93])] (.tup []) [bW ((p4.aR [93]).aR [59])] /\
    ∀ a c n,n=ve.length->ZH p gl ve (.slice af nf cf) (.slice an nn cn) (.agg [.v (.slice ag gl.length cg),.v (.slice a (n+1) c),.v (.slice af nf cf),.v (.slice an nn cn)]) [bW ((p4.aR [93]).aR [59]),.vech 9 1 (br gl) (.slice ag gl.length cg),.vech 98 2 (ve.map bg++[[.v (sv s),.v (ii z)]]) (.slice a (n+1) c)]:=fun z p4 e=>by
   rw [e] at t4 o4 hz le4;simp only at t4 o4 hz le4;have t5:=t4.trans (bL o4 (s:=[93]) aD);have o5:=t5.ok hp;have t6:=t5.trans (bL o5 (s:=[59]) aD);refine ⟨c9 _ _ o4 aD,c9 _ _ o5 aD,?_⟩;rintro a c n rfl;refine ⟨_,gl,ve++[⟨s,z⟩],_,_,t6,⟨_,_,rfl⟩,⟨a,c,by simp⟩,fun hc=>?_,rfl,by rw [l9];rfl⟩;have a1:=EV aD hc;have a2:=(bL o4 (s:=[93]) aD).2.2.2;have a3:=(bL o5 (s:=[59]) aD).2.2.2
   have lI:p.i < ((p4.aR [93]).aR [59]).i:=by have:=t1.2.2.2;omega
   exact ⟨lI,fun fs aX h=>h.arr ⟨s,z⟩ nl hz lI⟩
  clear t4 o4 hz le4
  cases ht:p2.l[p2.i+1]? with
  | none =>
   have kP:=pS ht
   have hd:decide (((p2.i+1:Nat):Int) < ((p2.l.map dm).length:Int))=false:=by simp;omega
   have e:su p2.next=(0,p2.next.fail 7 p2.next.place):=by unfold su;rw [show p2.next.l[p2.next.i]?=none from ht]
   exact zav
  | some t =>
   have aeo:=(bB ht).1
   have hd:decide (((p2.i+1:Nat):Int) < ((p2.l.map dm).length:Int))=true:=by simp;omega
   have hr:=mN ht
   by_cases hk:t.kind=1
   ·have fm:(t.kind==1)=true:=by simpa using hk
    have e:su p2.next=(t.n,p2.next.next):=by unfold su;rw [show p2.next.l[p2.next.i]?=some t from ht];simp only;rw [ah hk]
    obtain ⟨m5,m6,fin⟩:=fin _ _ e;refine ai func160 ntmps160 ?_;refine V [0] m1 ?_;refine V [0] m2 ?_;refine V [0] m3 ?_;refine aM (ax 0 24 .nil) ?_;refine bm ?_;refine aM (ax 0 12 .nil) ?_;refine bm ?_;refine V [0] m5 ?_;refine GL.fO 2 rfl rfl rfl rfl rfl rfl rfl rfl az jm ?_;intro a c;refine zaq ?_;refine V [0] m6 ?_;refine gY ?_;exact fin _ _ _ U2
   ·have fm:(t.kind==1)=false:=by simpa using hk
    have e:su p2.next=(0,p2.next.fail 7 p2.next.place):=by unfold su;rw [show p2.next.l[p2.next.i]?=some t from ht];simp only;rw [ab hk]
    exact zav
 ·have pA:(p2.sign 0==[91])=false:=by
   cases h:(p2.sign 0==[91]) with
   | false=>rfl
   | true=>exact absurd (eq_of_beq h) hs
  have m4:=c9 p2 [59] o2 aD;have t4:=t2.trans (bL o2 (s:=[59]) aD);refine ai func160 ntmps160 ?_;refine V [0] m1 ?_;refine V [0] m2 ?_;refine V [0] m3 ?_;refine zai ?_;intro a c;refine zaq ?_;refine V [0] m4 ?_;refine gY ?_;refine ⟨_,gl++[s],ve,_,_,t4,⟨a,c,by simp [br]⟩,⟨_,_,rfl⟩,fun hc=>?_,rfl,by unfold br;rw [l9];rfl⟩;have a1:=EV aD hc;have a2:=t2.2.2.2
  have lI:p.i < (p2.aR [59]).i:=by omega
  exact ⟨lI,fun fs aX h=>h.ac5 s nl lI⟩
open GV (U)
open Go.Xp (Nd T aQ jJ ko)
def FnR (p:RS) (fns:List Go.Sp.Fn) (aX:List Nd) (hg ha:Value) (g:GV) (Δ:List Ob):Prop :=
 ∃ q fns' nds' hf' yR ql,p.to q/\Hd fns'.length hf'/\rU nds' yR ql/\(q.code=0->p.i < q.i/\∀ gl ve,PB ⟨gl,ve,fns,aX⟩ p.i->PB ⟨gl,ve,fns',nds'⟩ q.i) /\
  g=.agg [.v hg,.v ha,.v hf',.v yR]/\Δ=[bW q,.vech 65 3 (fns'.map aw) hf',blob (da nds' yR ql)]
theorem YE (p:RS) (hp:p.ok) (hb:SB p) (h6:p.l.length<=6000) (fns:List Go.Sp.Fn) (aX:List Nd) (hg ha hf hn:Value) (ns:List Value) {ng na:Nat} (Hg:Hd ng hg) (Ha:Hd na ha) (Hf:Hd fns.length hf) (Hn:rU aX hn ns) (ki:fns.length<=1000000) (uj:aX.length<=1000000) :
  GC prog 161 [.loc 0 0,.agg [.v hg,.v ha,.v hf,.v hn]] [bW p,.vech 65 3 (fns.map aw) hf,blob (da aX hn ns)] (FnR p fns aX hg ha):=by
 obtain ⟨ag,cg,rfl⟩:=Hg;obtain ⟨aa,ca,rfl⟩:=Ha;obtain ⟨af,cf,rfl⟩:=Hf;have adm:(fns.map aw).length=fns.length:=bM _
 have ada:=fun (t:T) (h:aQ t<=1000000)=>GC.blob (Vr (aQ t) t (aI _) aX hn ns Hn X) (fun g Δ hR=>by
  obtain ⟨h',ql,-,rfl,rfl⟩:=hR
  exact ⟨EX,_,rfl⟩)
 obtain ⟨⟨an,cn,rfl⟩,Hn2,Hn3⟩:=id Hn;have m1:=c9 p ko hp aD;have t1:=bL hp (s:=ko) aD;have o1:=t1.ok hp;have i1:(p.aR ko).code=0->p.i < (p.aR ko).i:=EV aD;generalize p.aR ko=p1 at *;have m2:=q6 p1 o1;have t2:=t1.trans (fj o1);have o2:=t2.ok hp;have nl:=ra p1
 have ne:¬ p1.code=0->¬ p1.name.2.code=0:=fun h=>by rw [DQ h];exact h
 have le2:=(fj o1).2.2.2;generalize p1.name=nm at *;obtain ⟨s,p2⟩:=nm;simp only at m2 t2 o2 nl ne le2;have m3:=c9 p2 [40] o2 aD;have t3:=t2.trans (bL o2 (s:=[40]) aD);have o3:=t3.ok hp
 have ne3:¬ p1.code=0->¬ (p2.aR [40]).code=0:=fun h=>QT aD (ne h)
 have le3:=(bL o2 (s:=[40]) aD).2.2.2;generalize p2.aR [40]=p3 at *;have m4:=dw p3 0 o3 aD;refine ai func161 ntmps161 ?_;refine V [0] m1 ?_;refine GW.join (fun fr Γ=>fr=[.loc 0 0,U,U,.loc 3 0,.loc 4 0,.loc 5 0,U,U,U,U,U,U,U,U,U,U,U,U,U,U,U,U,U,U,U,U,U,U,U,U,U,U,U,U,U,U,U,U,U,U,U,U,U,U,U,U,U,U,U,U,U,U,U,U,U,U,U,U,U,U,U,U,U,U,U]/\Γ=[bW p2,.vech 65 3 (fns.map aw) (.slice af fns.length cf),blob (da aX (.slice an aX.length cn) ns),.box 28 [.v (.slice ag ng cg),.v (.slice aa na ca),.v (.slice af fns.length cf),.v (.slice an aX.length cn)],.box 28 [.v (.slice none 0 0),.v (.slice none 0 0),.v (.slice none 0 0),.v (.slice none 0 0)],.box 65 [.v (sv s),.v (.slice none 0 0),.v (ii (aX.length:Nat))]]) ?_ ?_
 ·refine aM (.q 0 (ax 2 3 (.f 1 (.q 5 (.a 6 (.a 7 .nil))) 6 (.a 1 (.q 5 (.a 7 .nil)))))) ?_;refine aj ?_;refine GO.fork ?_ ?_
  ·refine aC [0] m2 ?_;exact jx
  ·refine OA rfl rfl (GL.alloc rfl ?_);refine zdi ?_;refine aC [0] m2 ?_;exact jx
 rintro _ _ ⟨rfl,rfl⟩;refine D ?_;refine V [0] m3 ?_;refine GL.wk (Wk.gK 9 1) ?_;simp only [cons_append,nil_append];refine V [0] m4 ?_
 refine GW.join (fun fr Γ=>∃ q acc a c,fr=[.loc 0 0,U,U,.loc 3 0,.loc 4 0,.loc 5 0,U,U,U,U,U,U,U,U,U,U,U,U,U,U,U,U,U,U,U,U,U,U,U,U,U,U,U,U,U,U,U,U,U,U,U,U,U,U,U,U,U,U,U,U,U,U,U,U,U,U,U,U,U,U,U,U,U,U,U]/\Γ=[bW q,.vech 65 3 (fns.map aw) (.slice af fns.length cf),blob (da aX (.slice an aX.length cn) ns),.box 28 [.v (.slice ag ng cg),.v (.slice aa na ca),.v (.slice af fns.length cf),.v (.slice an aX.length cn)],.box 28 [.v (.slice none 0 0),.v (.slice none 0 0),.v (.slice none 0 0),.v (.slice none 0 0)],.box 65 [.v (sv s),.v (.slice a acc.length c),.v (ii (aX.length:Nat))],.vech 9 1 (br acc) (.slice a acc.length c)] /\
  p3.to q/\acc.length+p3.i<=q.i+1/\(∀ s∈acc,s.length<=12)/\(¬ p1.code=0->¬ q.code=0)) ?_ ?_
 ·by_cases hs:p3.sign 0=[41]
  ·have pA:(!(p3.sign 0==[41]))=false:=by rw [hs];rfl
   refine D ?_;exact ⟨_,_,Wk.aH ao,p3,[],none,0,rfl,rfl,ll o3,by simp,fun s h=>zgg,ne3⟩
  ·have pA:(!(p3.sign 0==[41]))=true:=by simpa using hs
   have m5:=q6 p3 o3;have t5:=fj o3;have o5:=t5.ok o3;have nl5:=ra p3
   have ne5:¬ p1.code=0->¬ p3.name.2.code=0:=fun h=>by rw [DQ (ne3 h)];exact ne3 h
   generalize p3.name=nm at *;obtain ⟨s5,p5⟩:=nm;simp only at m5 t5 o5 nl5 ne5;refine D ?_;have wT:([]:List (List GV)).length=0:=rfl;refine zbQ ?_;refine aC [0] m5 ?_;refine zat ?_;refine OA rfl rfl (GL.nF 6 (news:=[[.v (sv s5)]]) rfl rfl rfl az rfl rfl (by refine ⟨?_,?_⟩;(· show _+1<=_;omega);(· show (_+1) * _<=_;omega)) ?_);intro a c;refine zaL ?_
   refine GW.loop (fun x:Nat=>6000 - x) (fun x fr Γ=>∃ q acc a c,fr=[.loc 0 0,U,U,.loc 3 0,.loc 4 0,.loc 5 0,U,U,U,U,U,U,U,U,U,U,U,U,U,U,U,U,U,U,U,U,U,U,U,U,U,U,U,U,U,U,U,U,U,U,U,U,U,U,U,U,U,U,U,U,U,U,U,U,U,U,U,U,U,U,U,U,U,U,U]/\Γ=[bW q,.vech 65 3 (fns.map aw) (.slice af fns.length cf),blob (da aX (.slice an aX.length cn) ns),.box 28 [.v (.slice ag ng cg),.v (.slice aa na ca),.v (.slice af fns.length cf),.v (.slice an aX.length cn)],.box 28 [.v (.slice none 0 0),.v (.slice none 0 0),.v (.slice none 0 0),.v (.slice none 0 0)],.box 65 [.v (sv s),.v (.slice a acc.length c),.v (ii (aX.length:Nat))],.vech 9 1 (br acc) (.slice a acc.length c)] /\
    p3.to q/\acc.length+p3.i<=q.i+1/\(∀ s∈acc,s.length<=12)/\(¬ p1.code=0->¬ q.code=0)/\x=q.i) p5.i ?_ ?_
   ·exact ⟨_,_,(Wk.cut (n:=7) (c6 rfl) rfl).trans (Wk.aH ao),p5,[s5],a,c,rfl,rfl,t5,by have:=t5.2.2.2;simp only [length_cons,length_nil];omega,fun s h=>by rw [mem_singleton] at h;subst h;exact nl5,ne5,rfl⟩
   ·rintro _ _ _ ⟨q,acc,a,c,rfl,rfl,tq,mD,oT,cj,rfl⟩;have oq:=tq.ok o3;have m6:=dw q 0 oq aD
    have rI:q.l.length<=6000:=by rw [tq.1,t3.1];exact h6
    have oq1:=oq.1;have nB:(br acc).length=acc.length:=bM _
    by_cases hc:q.sign 0=[44]
    ·have dP:(q.sign 0==[44])=true:=by rw [hc];rfl
     have au:=dH hc aD;have hq0:=au.2;have au:=au.1;rw [Nat.add_zero] at au;have tn:=cX au;have on:=tn.ok oq
     have m7:GF prog 217 [.loc 0 0] [bW q.next] (.v (sv q.next.name.1)) [bW q.next.name.2]:=q6 q.next on
     have t7:=tq.trans (tn.trans (fj on))
     have nl7:=ra q.next
     have le7:=(fj on).2.2.2
     have W9:q.next.i=q.i+1:=rfl
     have ue:=(t7.ok o3).1
     have nS:q.next.name.2.l.length<=6000:=by rw [t7.1,t3.1];exact h6
     have mU:p1.code=0:=by
      cases Int.decEq p1.code 0 with
      | isTrue h=>exact h
      | isFalse h=>exact absurd hq0 (cj h)
     generalize q.next.name=nm at *
     obtain ⟨s7,p7⟩:=nm;simp only at m7 t7 nl7 le7 ue nS;refine D ?_;refine V [0] m6 ?_;refine zbQ ?_;refine aC [0] m7 ?_;refine zat ?_;refine OA rfl rfl (GL.nF 6 (news:=[[.v (sv s7)]]) rfl rfl rfl az rfl rfl (by refine ⟨?_,?_⟩;(· show _+1<=_;omega);(· show (_+1) * _<=_;omega)) ?_);intro a2 c2;refine zaL ?_
     exact ⟨p7.i,⟨_,_,(Wk.cut (n:=7) (c6 rfl) rfl).trans (Wk.aH ao),p7,acc++[s7],a2,c2,rfl,by simp [br],t7,by rw [aL,length_singleton];omega,fun s h=>by
      rcases mo h with h | h
      ·exact oT s h
      ·rw [mem_singleton] at h;subst h;exact nl7,fun h=>absurd mU h,rfl⟩,by omega⟩
    ·have dP:(q.sign 0==[44])=false:=by
      cases h:(q.sign 0==[44]) with
      | false=>rfl
      | true=>exact absurd (eq_of_beq h) hc
     refine D ?_;refine V [0] m6 ?_;refine kB ?_;exact ⟨_,_,Wk.aH ao,q,acc,a,c,rfl,rfl,tq,mD,oT,cj⟩
 ·rintro _ _ ⟨q,acc,a,c,rfl,rfl,tq,mD,oT,cj⟩;have oq:=tq.ok o3;have m5:=c9 q [41] oq aD;have t5:=tq.trans (bL oq (s:=[41]) aD);have o5:=t5.ok o3;have tp5:=t3.trans t5;have sb5:=hb.to tp5
  have mk:(q.aR [41]).code=0->q.code=0/\(q.aR [41]).i=q.i+1:=fun h=>by
   obtain ⟨I,G,-⟩:=uF aD h;exact ⟨G,by rw [I];rfl⟩
  generalize q.aR [41]=r at *
  have hr6:r.l.length<=6000:=by rw [tp5.1];exact h6
  obtain ⟨t,v,hS⟩:=(S1 (5 * r.left+4)).1 1 r o5 (aI _)
  have M9:r.left<=6000:=by unfold RS.left;omega
  have m6:=(sds (5 * r.left+4)).block 1 r t v o5 X hS;have t6:=((sq (5 * r.left+4)).1 _ _ _ _ o5 (fun a d' h=>by cases h) hS);obtain ⟨bt,bz,bi⟩:=(Xz (5 * r.left+4)).1 1 r t v o5 sb5 hS;have tv:=tp5.trans t6;have ov:=tv.ok hp
  have hv6:v.l.length<=6000:=by rw [tv.1];exact h6
  have vO:=ov.1;have hL:=ada t X
  have back:v.code=0->r.code=0:=fun h=>by
   cases Int.decEq r.code 0 with
   | isTrue h=>exact h
   | isFalse hr =>
    have:=Ki hr (g:=5 * r.left+4) (d:=1) X;rw [this] at hS;cases hS;exact h
  by_cases hc:v.code=0
  ·have dP:(v.code==0)=true:=by simpa using hc
   refine D ?_;refine V [0] m5 ?_;refine V [0] m6 ?_;refine bA [2] hL ?_;rintro _ _ ⟨_,⟨yR,ql,Hn',rfl,rfl⟩,rfl⟩;obtain ⟨⟨ZP,ZZ,rfl⟩,-,-⟩:=id Hn';refine bF ?_;refine GL.wk (Wk.u7 (i:=5) (o:=1) (j:=6) rfl rfl rfl rfl) ?_;refine zaq ?_;refine zai ?_;intro a3 c3;refine zaq ?_;refine gY ?_;have hr:=back hc;obtain ⟨hq0,sV⟩:=mk hr
   have mU:p1.code=0:=by
    cases Int.decEq p1.code 0 with
    | isTrue h=>exact h
    | isFalse h=>exact absurd hq0 (cj h)
   have hi:=i1 mU
   have lI:p.i < v.i:=by omega
   refine ⟨v,fns++[⟨s,acc,aX.length⟩],aX++jJ aX.length t,_,_,ql,tv,⟨a3,c3,by rw [adm];simp⟩,Hn',fun _=>⟨lI,fun gl ve h=>h.fn ⟨s,acc,aX.length⟩ t nl oT bt acc.length (v.i - r.i) (aI _) bz X⟩,rfl,by rw [l9];rfl⟩
  ·have dP:(v.code==0)=false:=by simpa using hc
   refine D ?_;refine V [0] m5 ?_;refine V [0] m6 ?_;refine gY ?_;exact ⟨v,fns,aX,_,_,ns,tv,⟨_,_,rfl⟩,Hn,fun h=>absurd h hc,rfl,rfl⟩
def tU (p:Src) (hg ha hf hn:Value) (ns:List Value):List Ob :=
 [.vech 9 1 (br p.globals) hg,.vech 98 2 (p.arrays.map bg) ha,.vech 65 3 (p.fns.map aw) hf,blob (da p.nodes hn ns)]
structure qL (p:Src) (hg ha hf hn:Value) (ns:List Value):Prop where
 g:Hd p.globals.length hg
 a:Hd p.arrays.length ha
 f:Hd p.fns.length hf
 n:rU p.nodes hn ns
theorem N1:qL HA (.slice none 0 0) (.slice none 0 0) (.slice none 0 0) (.slice none 0 0) []:=⟨⟨none,0,rfl⟩,⟨none,0,rfl⟩,⟨none,0,rfl⟩,rU.nil⟩
def Uo (g:GV) (Δ:List Ob):Prop:=∃ p hg ha hf hn ns c z,qL p hg ha hf hn ns/\b7 p<=600000/\ma p/\g=.tup [.agg [.v hg,.v ha,.v hf,.v hn],.v (ii c),.v (ii z)]/\Δ=tU p hg ha hf hn ns
theorem Y2 (c z:Int):Uo (.tup [.agg [.v (.slice none 0 0),.v (.slice none 0 0),.v (.slice none 0 0),.v (.slice none 0 0)],.v (ii c),.v (ii z)]) (tU HA (.slice none 0 0) (.slice none 0 0) (.slice none 0 0) (.slice none 0 0) []) :=
 ⟨HA,_,_,_,_,[],c,z,N1,aS _,PB.no.num,rfl,rfl⟩
theorem KZ {p:Src} {hg ha hf hn:Value} {ns:List Value}:∀ x∈tU p hg ha hf hn ns,x.w7=true:=fun x hx=>by
 unfold tU at hx;simp only [List.mem_cons,not_mem_nil,or_false] at hx
 rcases hx with rfl | rfl | rfl | rfl <;> rfl
theorem GW.PJ {P:Program} {fn:Func} {Q:eC} {t u s:Tmp} {T:TypeId} [hT:Ty P T true 4] {i:Nat} {E:TypeId} {c z:Int} {fr:List GV} {Γ:List Ob} (hr:fn.results=#[.cell t T,.tmp u,.tmp s]) (hg:dc (yc (Γ.length+3) fr) t=.loc i 0) (hi:i < Γ.length) (bH:Γ[i]?=some (.box E [.v (.slice none 0 0),.v (.slice none 0 0),.v (.slice none 0 0),.v (.slice none 0 0)])) (iO:dc (yc (Γ.length+3) fr) u=.v (ii c)) (RV:dc (yc (Γ.length+3) fr) s=.v (ii z))
  (hA:vQ (Γ.length+3) Γ=true) (hQ:∀ fr Γ,wL P fn 0 Uo .ret fr Γ->Q .ret fr Γ):GW P 0 .ret Q fr Γ:=by
 refine GW.wk (Wk.gK 9 1) ?_;refine GW.wk (Wk.gK 98 2) ?_;refine GW.wk (Wk.gK 65 3) ?_;simp only [eF,cons_append,nil_append]
 have hl:(Γ++[Ob.vech 9 1 [] (.slice none 0 0),.vech 98 2 [] (.slice none 0 0),.vech 65 3 [] (.slice none 0 0)]).length=Γ.length+3:=by simp
 refine GW.wk (Wk.PH (aS _) (by rw [hl];show uu (below _) (Γ++_)=true;rw [NN,show uu (below (Γ.length+3)) Γ=true from hA];rfl)) ?_;rw [hl];refine GW.ret ?_;refine hQ _ _ ?_;refine MV (k:=4) Γ.length hr (.inr rfl) hg (by rw [eF,gm hi];exact bH) rfl rfl iO RV ?_ ?_
 ·rw [eF,List.drop_left];exact KZ (p:=HA)
 ·rw [eF,List.drop_left];exact Y2 c z
theorem Fw (s:ae) (hs:s.length<=1000000000000):GC prog 95 [.v (sv s)] [] Uo:=by
 refine ai func95 ntmps95 ?_;refine bA [] (abB s hs) ?_;rintro _ _ ⟨rfl,l,c,z,rfl,hL⟩;refine bF ?_
 by_cases hc:c=0
 ·subst hc;obtain ⟨Ni,R5,M5⟩:=hL rfl;have vn:(l.map dm).length=l.length:=bM _;refine D ?_
  refine GW.EO (fun fr Γ=>∃ q p hg ha hf hn ns,fr=[U,U,.loc 0 0,U,U,U,U,U,.loc 1 0,.loc 2 0,U,U,U,U,U,U,U,U,U,U,U,U,U,U,U,U,U,U,U,U,U,U,U,U,U,U,U,U,U,U,U,U,U,U,U,U,U,U,U,U,U,U,U,U,U,U,U,U,U,U,U,U,U,U,U,U,U,U,U,U,U,U,U,U,U,U,U]/\Γ=.box 28 [.v (.slice none 0 0),.v (.slice none 0 0),.v (.slice none 0 0),.v (.slice none 0 0)]::bW q::.box 28 [.v hg,.v ha,.v hf,.v hn]::tU p hg ha hf hn ns /\
   qL p hg ha hf hn ns/\RS.to ⟨l,0,s.length,0,0⟩ q/\(q.code=0->PB p q.i)) ?_ ?_
  ·refine GW.loop (fun x:Nat=>x) (fun x fr Γ=>∃ q p hg ha hf hn ns,fr=[U,U,.loc 0 0,U,U,Go.Xg.iU l,U,U,.loc 1 0,.loc 2 0,U,U,U,U,U,U,U,U,U,U,U,U,U,U,U,U,U,U,U,U,U,U,U,U,U,U,U,U,U,U,U,U,U,U,U,U,U,U,U,U,U,U,U,U,U,U,U,U,U,U,U,U,U,U,U,U,U,U,U,U,U,U,U,U,U,U,U]/\Γ=.box 28 [.v (.slice none 0 0),.v (.slice none 0 0),.v (.slice none 0 0),.v (.slice none 0 0)]::bW q::.box 28 [.v hg,.v ha,.v hf,.v hn]::tU p hg ha hf hn ns /\
    qL p hg ha hf hn ns/\RS.to ⟨l,0,s.length,0,0⟩ q/\(q.code=0->PB p q.i)/\x=if q.code=0 then 6001 - q.i else 0) 6001 ?_ ?_
   ·exact ⟨_,_,((((Wk.gK 9 1).trans (Wk.gK 98 2)).trans (Wk.gK 65 3)).trans (Wk.PH (aS _) rfl)).trans (Wk.aH ao),⟨l,0,s.length,0,0⟩,HA,_,_,_,_,[],rfl,rfl,N1,ll ⟨aS _,by show l.length<=_;omega⟩,fun _=>PB.no,rfl⟩
   ·rintro x _ _ ⟨q,p,hg,ha,hf,hn,ns,rfl,rfl,HG,tq,AG,hx⟩;have o0:RS.ok ⟨l,0,s.length,0,0⟩:=⟨aS _,by show l.length<=_;omega⟩;have oq:=tq.ok o0;have sb0:SB ⟨l,0,s.length,0,0⟩:=⟨M5,by show (0:Int)<=(s.length:Int)/\(s.length:Int)<=6000;omega⟩;have sbq:=sb0.to tq;have rI:q.l=l:=tq.1
    have Xb:q.i<=l.length:=by have:=oq.1;rw [rI] at this;exact this
    unfold tU;obtain ⟨Hg,Ha,Hf,Hn⟩:=HG;obtain ⟨ag,cg,rfl⟩:=id Hg;obtain ⟨aa,ca,rfl⟩:=id Ha;obtain ⟨af,cf,rfl⟩:=id Hf;obtain ⟨⟨an,cn,rfl⟩,Hn2,Hn3⟩:=id Hn
    by_cases hc:q.code=0
    ·have dP:(q.code==0)=true:=by simpa using hc
     rw [ah hc] at hx
     by_cases hi:q.i < l.length
     ·have hd:decide ((q.i:Int) < ((l.map dm).length:Int))=true:=by rw [vn];simpa using hi
      have m1:=dw q 0 oq aD;have AG:=AG hc;have hw:=AG.w
      have hlen:p.globals.length<=1000000/\p.arrays.length<=1000000/\p.fns.length<=1000000/\p.nodes.length<=1000000:=by
       have:=sF p;omega
      by_cases I:q.sign 0=jU
      ·have dD:(q.sign 0==[105,110,116])=true:=by rw [I];rfl
       refine D ?_;refine V [1] m1 ?_;refine bA [1,3,4] (Vq q oq sbq p.globals p.arrays _ _ _ _ Hg Ha Hf Hn.head hlen.1 hlen.2.1) ?_;rintro _ _ ⟨q2,gl2,acU,_,_,t2,⟨ag2,cg2,rfl⟩,⟨aa2,ca2,rfl⟩,RO,rfl,rfl⟩;refine bF ?_;refine zbG ?_;refine ⟨if q2.code=0 then 6001 - q2.i else 0,⟨_,_,Wk.aH ao,q2,⟨gl2,acU,p.fns,p.nodes⟩,_,_,_,_,ns,rfl,rfl,⟨⟨_,_,rfl⟩,⟨_,_,rfl⟩,Hf,Hn⟩,tq.trans t2,fun h=>(RO h).2 _ _ AG,rfl⟩,?_⟩;split
       ·rename_i h;have:=(RO h).1;omega
       ·omega
      ·have dD:(q.sign 0==[105,110,116])=false:=by
        cases h:(q.sign 0==[105,110,116]) with
        | false=>rfl
        | true=>exact absurd (eq_of_beq h) I
       by_cases G:q.sign 0=ko
       ·have sP:(q.sign 0==[102,117,110,99])=true:=by rw [G];rfl
        refine D ?_;refine V [1] m1 ?_;refine bA [1,5,6] (YE q oq sbq (by rw [rI];exact R5) p.fns p.nodes _ _ _ _ ns Hg Ha Hf Hn hlen.2.2.1 hlen.2.2.2) ?_;rintro _ _ ⟨q2,ac4,adR,_,_,Ku,t2,⟨GQ,cf2,rfl⟩,⟨⟨ZP,ZZ,rfl⟩,N2,N3⟩,RO,rfl,rfl⟩;refine bF ?_;refine zbG ?_;refine ⟨if q2.code=0 then 6001 - q2.i else 0,⟨_,_,Wk.aH ao,q2,⟨p.globals,p.arrays,ac4,adR⟩,_,_,_,_,Ku,rfl,rfl,⟨Hg,Ha,⟨_,_,rfl⟩,⟨⟨_,_,rfl⟩,N2,N3⟩⟩,tq.trans t2,fun h=>(RO h).2 _ _ AG,rfl⟩,?_⟩;split
        ·rename_i h;have:=(RO h).1;omega
        ·omega
       ·have sP:(q.sign 0==[102,117,110,99])=false:=by
         cases h:(q.sign 0==[102,117,110,99]) with
         | false=>rfl
         | true=>exact absurd (eq_of_beq h) G
        have m2:=lC q oq;have m3:=lJ q 7 q.place;have t2:=l6 oq 7 q.place
        have h7:¬ (q.fail 7 q.place).code=0:=by
         unfold RS.fail;rw [ah hc];show ¬ (7:Int)=0;omega
        generalize q.fail 7 q.place=q2 at *;refine D ?_;refine V [1] m1 ?_;refine V [1] m2 ?_;refine V [1] m3 ?_;refine kB ?_;refine D ?_;refine ⟨0,⟨_,_,Wk.aH ao,q2,p,_,_,_,_,ns,rfl,rfl,⟨Hg,Ha,Hf,Hn⟩,tq.trans t2,fun h=>absurd h h7,by rw [ab h7]⟩,by omega⟩
     ·have hd:decide ((q.i:Int) < ((l.map dm).length:Int))=false:=by rw [vn];simpa using by omega
      exact zdS
    ·have dP:(q.code==0)=false:=by simpa using hc
     exact zdS
  ·rintro _ _ ⟨q,p,hg,ha,hf,hn,ns,rfl,rfl,HG,tq,AG⟩;have oq:=tq.ok ⟨aS _,by show l.length<=_;omega⟩
   have Xb:q.i<=l.length:=by have:=oq.1;rw [tq.1] at this;exact this
   unfold tU
   by_cases hc:q.code=0
   ·have dP:(q.code != 0)=false:=by simpa using hc
    have AG:=AG hc;have hw:=AG.w;obtain ⟨Hg,Ha,Hf,Hn⟩:=HG;obtain ⟨ag,cg,rfl⟩:=id Hg;obtain ⟨aa,ca,rfl⟩:=id Ha;obtain ⟨af,cf,rfl⟩:=id Hf;obtain ⟨⟨an,cn,rfl⟩,Hn2,Hn3⟩:=id Hn
    by_cases h8:p.nodes.length<=800
    ·have h8':decide ((800:Int) < (p.nodes.length:Int))=false:=decide_eq_false X;refine zdO ?_;refine MV (k:=4) 3 rfl cB rfl rfl rfl rfl rfl rfl (fun x hx=>KZ (p:=p) (hg:=.slice ag p.globals.length cg) (ha:=.slice aa p.arrays.length ca) (hf:=.slice af p.fns.length cf) (hn:=.slice an p.nodes.length cn) (ns:=ns) x hx) ?_;exact ⟨p,_,_,_,_,ns,0,0,⟨Hg,Ha,Hf,Hn⟩,by omega,AG.num,rfl,rfl⟩
    ·have h8':decide ((800:Int) < (p.nodes.length:Int))=true:=decide_eq_true X;refine D ?_;exact zaY
   ·have dP:(q.code != 0)=true:=by simpa using hc
    refine D ?_;refine aM (ax 0 9 (.a 9 (.q 10 (.q 11 .nil)))) ?_;refine bm ?_;exact zaY
 ·have dP:(c != 0)=true:=by simpa using hc
  refine D ?_;exact zaY
attribute [local irreducible] pE sI qJ
theorem SA (code:ae) (hl:code.length<=1099511627776) (c:dx) (hc:c.i<=code.length) :
  GC prog 186 [.loc 0 0] [gS code c] fun g Δ=>∃ (s:ae) (c':dx),c'.i<=code.length/\s.length<=1000000000/\g=.v (sv s)/\Δ=[gS code c']:=by
 have I:=Aa code hl 2 c X hc;have b1:=CD code 2 c;have i1:=Iv (code:=code) 2 hc;have e2:Df 2=25800:=rfl;have e3:Df 3=155400:=rfl;have e4:A5 2=49:=rfl;rw [e2] at b1;generalize zk code 2 c=a at *;obtain ⟨s1,c1⟩:=a;simp only at I b1 i1;have G:=Nw code hl 2 c1 X i1;have b2:=oP code 2 c1;have i2:=tC (code:=code) 2 i1;rw [e4] at b2;generalize jy code 2 c1=a at *;obtain ⟨s2,c2⟩:=a;simp only at G b2 i2;have h3:=Aa code hl 3 c2 X i2;have b3:=CD code 3 c2;have i3:=Iv (code:=code) 3 i2;rw [e3] at b3;generalize zk code 3 c2=a at *;obtain ⟨s3,c3⟩:=a;simp only at h3 b3 i3;refine ai func186 ntmps186 ?_;refine zfI ?_;refine V [0] G ?_;refine V [0] h3 ?_;refine bY ?_;exact ⟨_,c3,i3,by simp only [aL,length_cons,length_nil];omega,rfl,rfl⟩
theorem H9:GC prog 185 [] [] fun g Δ=>Δ=[]/\∃ rows,g=.sl 1 rows/\rows.length=14/\rows.all (PN 1000)=true:=by
 refine ai func185 ntmps185 ?_;refine zam ?_;refine bY ?_;exact ⟨rfl,_,rfl,by decide +kernel,by decide +kernel⟩
def acT (code:ae) (g:GV) (Δ:List Ob):Prop:=∃ (c:dx) (p:Src) (hg ha hf hn:Value) (ns:List Value),c.i<=code.length/\qL p hg ha hf hn ns/\b7 p<=600000/\ma p/\g=.agg [.v hg,.v ha,.v hf,.v hn]/\Δ=gS code c::tU p hg ha hf hn ns
theorem LY (code:ae) (hl:code.length<=1099511627776) (c:dx) (hc:c.i<=code.length) :
  GC prog 133 [.loc 0 0] [gS code c] (acT code):=by
 have I:=cW code 14 c hl hc;have r1:=cK code c (n:=14) X;have i1:=cw (code:=code) 14 hc;generalize bd code 14 c=a at *;obtain ⟨k,c1⟩:=a;simp only at I r1 i1;obtain ⟨k,rfl⟩:∃ q:Nat,k=(q:Int):=⟨k.toNat,by omega⟩;have G:=cW code 3 c1 hl i1;have r2:=cK code c1 (n:=3) X;have i2:=cw (code:=code) 3 i1;generalize bd code 3 c1=a at *;obtain ⟨j,c2⟩:=a;simp only at G r2 i2;have h3:=SA code hl c2 i2;refine ai func133 ntmps133 ?_;refine bA [] H9 ?_;rintro _ _ ⟨rfl,rows,rfl,r6,Sc⟩;refine zas ?_;rw [r6];refine zfI ?_;refine GL.Ir 1000 rfl rfl Sc (by rw [r6];omega) rfl ?_;intro s hs;refine ct ?_;refine bA [] (Fw s X) ?_;rintro _ _ ⟨p,_,_,_,_,ns,z1,z2,⟨⟨ag,cg,rfl⟩,⟨aa,ca,rfl⟩,⟨af,cf,rfl⟩,⟨⟨an,cn,rfl⟩,N2,N3⟩⟩,hw,fQ,rfl,rfl⟩;refine bF ?_;unfold tU;refine D ?_;refine V [0] G ?_
 by_cases hj:j=0
 ·have oy:(j==0)=true:=by simpa using hj
  refine D ?_;refine bA [0] h3 ?_;rintro _ _ ⟨s2,c3,i3,mx,rfl,rfl⟩;refine zas ?_;refine bA [] (Fw s2 X) ?_;rintro _ _ ⟨p2,_,_,_,_,Ku,z3,z4,⟨⟨ag2,cg2,rfl⟩,⟨aa2,ca2,rfl⟩,⟨GQ,cf2,rfl⟩,⟨⟨ZP,ZZ,rfl⟩,M2,M3⟩⟩,qY,ab2,rfl,rfl⟩;refine bF ?_;unfold tU;refine zdO ?_;refine WK [0,7,8,9,10] (gS code c3::tU p2 (.slice ag2 p2.globals.length cg2) (.slice aa2 p2.arrays.length ca2) (.slice GQ p2.fns.length cf2) (.slice ZP p2.nodes.length ZZ) Ku) rfl cB rfl rfl rfl rfl aD rfl ⟨⟨rfl,rfl⟩,⟨rfl,rfl⟩,⟨rfl,rfl⟩,⟨rfl,rfl⟩,⟨rfl,rfl⟩,trivial⟩ ?_;exact ⟨c3,p2,_,_,_,_,Ku,i3,⟨⟨_,_,rfl⟩,⟨_,_,rfl⟩,⟨_,_,rfl⟩,⟨⟨_,_,rfl⟩,M2,M3⟩⟩,qY,ab2,rfl,rfl⟩
 ·have oy:(j==0)=false:=by simpa using hj
  refine zdO ?_;refine WK [0,2,3,4,5] (gS code c2::tU p (.slice ag p.globals.length cg) (.slice aa p.arrays.length ca) (.slice af p.fns.length cf) (.slice an p.nodes.length cn) ns) rfl cB rfl rfl rfl rfl aD rfl ⟨⟨rfl,rfl⟩,⟨rfl,rfl⟩,⟨rfl,rfl⟩,⟨rfl,rfl⟩,⟨rfl,rfl⟩,trivial⟩ ?_;exact ⟨c2,p,_,_,_,_,ns,i2,⟨⟨_,_,rfl⟩,⟨_,_,rfl⟩,⟨_,_,rfl⟩,⟨⟨_,_,rfl⟩,N2,N3⟩⟩,hw,fQ,rfl,rfl⟩
end Go.Xg
namespace Go.Sp
open Go.Xp Go.Im
theorem K8 {α:Type} (f:α->Nat):∀ (l:List α) (i:Nat) (x y:α),l[i]?=some x->cD f (l.set i y)+f x=cD f l+f y
 | [],i,x,y,h=>by simp at h
 | z::l,0,x,y,h=>by cases h;rw [set_cons_zero,cD,cD];omega
 | z::l,i+1,x,y,h=>by have:=K8 f l i x y zgc;rw [List.set_cons_succ,cD,cD];omega
theorem CG (p:Src) (i:Nat) (x y:Nd) (h:p.nodes[i]?=some x):b7 ⟨p.globals,p.arrays,p.fns,p.nodes.set i y⟩+(x.s.length+x.kids.length+1)=b7 p+(y.s.length+y.kids.length+1):=by
 have:=K8 (fun n:Nd=>n.s.length+n.kids.length+1) p.nodes i x y h;unfold b7;simp only at *;omega
end Go.Sp
namespace Go.Xg
open Go.RowKit Go.Xw Go.Proofs Tryz Go.Sp Go.Im
open GV (U)
open Go.Xp (Nd)
theorem xi {o:Nat} {g:GV} {x x':Nd} (hg:∀ y,bX (ei x y) o g=ei x' y):∀ {aX:List Nd} {ns:List Value} {i:Nat},ns.length=aX.length->aX[i]?=some x->iw (List.zipWith ei aX ns) i o g=List.zipWith ei (aX.set i x') ns
 | [],ns,i,hl,h=>by simp at h
 | n::aX,[],i,hl,h=>by simp at hl
 | n::aX,v::ns,0,hl,h=>by
  cases h;rw [zipWith_cons_cons,set_cons_zero,zipWith_cons_cons,iw,hg]
 | n::aX,v::ns,i+1,hl,h=>by
  have:=xi hg (aX:=aX) (ns:=ns) (i:=i) zge zgc;rw [zipWith_cons_cons,iw,this];rfl
theorem xr {x x':Nd} (hk:x'.kids=x.kids):∀ {aX:List Nd} {ns:List Value} {i:Nat},aX[i]?=some x->List.zipWith kz (aX.set i x') ns=List.zipWith kz aX ns
 | [],ns,i,h=>by simp at h
 | n::aX,[],i,h=>by cases i <;> simp
 | n::aX,v::ns,0,h=>by
  cases h;rw [set_cons_zero,zipWith_cons_cons,zipWith_cons_cons];unfold kz;rw [hk]
 | n::aX,v::ns,i+1,h=>by
  have:=xr hk (aX:=aX) (ns:=ns) (i:=i) zgc;rw [List.set_cons_succ,zipWith_cons_cons,this];rfl
theorem rU.same {aX:List Nd} {h:Value} {ns:List Value} (H:rU aX h ns) {i:Nat} {x x':Nd} (hx:aX[i]?=some x) (hk:x'.kids=x.kids):rU (aX.set i x') h ns:=by
 obtain ⟨a,c,e⟩:=H.head;refine ⟨⟨a,c,by rw [e,length_set]⟩,by rw [length_set];exact H.len,fun j y v I G=>?_⟩;rw [fb] at I
 by_cases fy:i=j
 ·rw [ah fy] at I;split at I
  ·cases I;subst fy;rw [hk];exact H.kid i x v hx G
  ·cases I
 ·rw [ab fy] at I;exact H.kid j y v I G
abbrev qO (code:ae) (c:dx) (p:Src) (hg ha hf hn:Value) (ns:List Value):List Ob :=
 [gS code c,.box 28 [.v (.slice none 0 0),.v (.slice none 0 0),.v (.slice none 0 0),.v (.slice none 0 0)],.vech 9 1 (br p.globals) hg,.vech 98 2 (p.arrays.map bg) ha,.vech 65 3 (p.fns.map aw) hf,.gone,.box 28 [.v hg,.v ha,.v hf,.v hn]]++da p.nodes hn ns
theorem Wk.NY {m:Nat} {fr:List GV} {code:ae} {c:dx} {p:Src} {hg ha hf hn:Value} {ns:List Value} (HG:qL p hg ha hf hn ns) (hm:m<=7) :
  Wk m fr (qO code c p hg ha hf hn ns) (yc 7 fr) [gS code c,.box 28 [.v (.slice none 0 0),.v (.slice none 0 0),.v (.slice none 0 0),.v (.slice none 0 0)],.vec 9 1 (br p.globals).length (br p.globals),.vec 98 2 (p.arrays.map bg).length (p.arrays.map bg),.vec 65 3 (p.fns.map aw).length (p.fns.map aw),.gone,.box 28 (aq p)]:=by
 refine (Wk.u7 (i:=6) (o:=0) (j:=2) (x:=hg) rfl rfl rfl rfl).trans ?_;refine (Wk.u7 (i:=6) (o:=1) (j:=3) (x:=ha) rfl rfl rfl rfl).trans ?_;refine (Wk.u7 (i:=6) (o:=2) (j:=4) (x:=hf) rfl rfl rfl rfl).trans ?_;exact Wk.xT (i:=6) (o:=3) [gS code c,.box 28 [.v (.slice none 0 0),.v (.slice none 0 0),.v (.slice none 0 0),.v (.slice none 0 0)],.vec 9 1 (br p.globals).length (br p.globals),.vec 98 2 (p.arrays.map bg).length (p.arrays.map bg),.vec 65 3 (p.fns.map aw).length (p.fns.map aw),.gone,.box 28 [.sl 1 (br p.globals),.sl 2 (p.arrays.map bg),.sl 3 (p.fns.map aw),.v hn]] HG.n rfl hm rfl rfl rfl
def IK (code:ae) (g:GV) (Δ:List Ob):Prop:=∃ (c:dx) (p:Src),c.i<=code.length/\b7 p<=1048576/\ma p/\g=.agg (aq p)/\Δ=[gS code c]
def qK (code:ae) (k i j:Nat) (fr:List GV) (Γ:List Ob):Prop:=∃ (c:dx) (p:Src) (hg ha hf hn:Value) (ns:List Value),fr=[.loc 0 0,U,.loc 1 0,.loc 6 0,.v (ii (k:Nat)),.v (ii (i:Nat)),U,U,U,U,U,U,U,U,U,U,U,U,U,U,U,U,U,U,U,U,U,U,U,U,U,U,U,U,U,U,U,U,U,U,U,U,U,U,U,U,U,U,U,U,U,U,U,U,U,U,U,U,U,U,U,U,U,U,U,U,U,U,U,U,U,U,U,U,U,U,U,U,U,U,U,U,U,U,U,U,U,U,U,U,U,U,U,U,U,U,U,U,U,U,U,U,U]/\Γ=qO code c p hg ha hf hn ns /\
 c.i<=code.length/\qL p hg ha hf hn ns/\b7 p<=600000+10 * j/\ma p/\i < p.nodes.length
theorem qK.next {code:ae} {k i j:Nat} {fr:List GV} {Γ:List Ob} (h:qK code k i j fr Γ):qK code k i (j+1) fr Γ:=by
 obtain ⟨c,p,hg,ha,hf,hn,ns,I,G,h3,h4,h5,h6⟩:=h;exact ⟨c,p,hg,ha,hf,hn,ns,I,G,h3,h4,by omega,h6⟩
attribute [local irreducible] GW GL GO YG GC GA aU aW pE sI qJ
theorem Vp (code:ae) (hl:code.length<=1099511627776) (c:dx) (hc:c.i<=code.length) :
  GC prog 76 [.loc 0 0] [gS code c] (IK code):=by
 have hB:=fun (n:Int) (c:dx) (h:c.i<=code.length)=>cW code n c hl h
 have WS:=fun (n:Int) (c:dx) (h:c.i<=code.length)=>cw (code:=code) (c:=c) n h
 have hR:=fun (c:dx) (h:c.i<=code.length)=>J7 code c hl h
 refine ai func76 ntmps76 ?_;refine bA [0] (LY code hl c hc) ?_;rintro _ _ ⟨c1,p,_,_,_,_,ns,i1,⟨⟨ag,cg,rfl⟩,⟨aa,ca,rfl⟩,⟨af,cf,rfl⟩,⟨⟨an,cn,rfl⟩,N2,N3⟩⟩,hw,fQ,rfl,rfl⟩;unfold tU;refine zas ?_;have HG:qL p (.slice ag p.globals.length cg) (.slice aa p.arrays.length ca) (.slice af p.fns.length cf) (.slice an p.nodes.length cn) ns:=⟨⟨_,_,rfl⟩,⟨_,_,rfl⟩,⟨_,_,rfl⟩,⟨⟨_,_,rfl⟩,N2,N3⟩⟩;have g1:=hB 14 c1 i1;have r1:=cK code c1 (n:=14) X;have i2:=WS 14 c1 i1;generalize bd code 14 c1=a at *;obtain ⟨k,c2⟩:=a;simp only at g1 r1 i2;obtain ⟨k,rfl⟩:∃ q:Nat,k=(q:Int):=⟨k.toNat,by omega⟩;refine GL.wk (Wk.unpack 5 rfl) ?_;simp only [oset,cons_append,nil_append];unfold da;refine kA [0] g1 ?_;simp only [dN]
 by_cases h0:p.nodes.length=0
 ·have vi:(((p.nodes.map aV).length:Int)==0)=true:=by rw [bM,h0];rfl
  refine GL.wk (cV:=[.loc 0 0,U,.loc 1 0,.loc 6 0,U,U,U,U,U,.v (ii (k:Nat)),U,U,U,U,U,U,U,U,U,U,U,U,U,U,U,U,U,U,U,U,U,U,U,U,U,U,U,U,U,U,U,U,U,U,U,U,U,U,U,U,U,U,U,U,U,U,U,U,U,U,U,U,U,U,U,U,U,U,U,U,U,U,U,U,U,U,U,U,U,U,U,U,U,U,U,U,U,U,U,U,U,U,U,U,U,U,U,U,U,U,U,U,U]) (aZ:=[gS code c2,.box 28 [.v (.slice none 0 0),.v (.slice none 0 0),.v (.slice none 0 0),.v (.slice none 0 0)],.vec 9 1 (br p.globals).length (br p.globals),.vec 98 2 (p.arrays.map bg).length (p.arrays.map bg),.vec 65 3 (p.fns.map aw).length (p.fns.map aw),.gone,.box 28 (aq p)]) ?_ ?_
  ·refine Wk.trans (Wk.NY (code:=code) (c:=c2) HG ?_) ?_
   ·exact c6 rfl
   ·exact Wk.aH ao
  refine D ?_;refine gY ?_;exact ⟨c2,p,i2,by omega,fQ,rfl,rfl⟩
 ·have vi:((p.nodes.length:Int)==0)=false:=by simp only [beq_eq_false_iff_ne];omega
  have g2:=hB (p.nodes.length:Int) c2 i2;have r2:=cK code c2 (n:=(p.nodes.length:Int)) X;have i3:=WS (p.nodes.length:Int) c2 i2;generalize bd code (p.nodes.length:Int) c2=a at *;obtain ⟨i,c3⟩:=a;simp only at g2 r2 i3;obtain ⟨i,rfl⟩:∃ q:Nat,i=(q:Int):=⟨i.toNat,by omega⟩
  have hi:i < p.nodes.length:=by omega
  have hw:b7 p<=600000+10 * 0:=hw;refine D ?_;refine kA [0] g2 ?_;simp only [dN];refine D ?_;refine GW.join (qK code k i 1) ?_ ?_
  ·by_cases hk:(k:Int)=0
   ·have fm:((k:Int)==0)=true:=by rw [hk];rfl
    obtain ⟨x,hx⟩:∃ x,p.nodes[i]?=some x:=⟨p.nodes[i]'X,bV _⟩;obtain ⟨y,hy⟩:∃ y,ns[i]?=some y:=⟨ns[i]'X,bV _⟩
    have bD:(List.zipWith ei p.nodes ns)[i]?=some [.v (ii x.kind),.v (ii x.at_),.v (ii x.n),.v (sv x.s),.v y]:=by rw [getElem?_zipWith,hx,hy];rfl
    have jK:(List.zipWith ei p.nodes ns).length=p.nodes.length:=by rw [va];omega
    have g3:=hB 16 c3 i3;have uq:=WS 16 c3 i3;have r3:=cK code c3 (n:=16) X;generalize bd code 16 c3=a at *;obtain ⟨z,c4⟩:=a;simp only at g3 uq r3;have e1:=xi (o:=0) (g:=.v (ii z)) (x:=x) (x':=({ kind:=z,at_:=x.at_,n:=x.n,s:=x.s,kids:=x.kids }:Nd)) (fun y=>rfl) N2 hx;have e2:=xr (x:=x) (x':=({ kind:=z,at_:=x.at_,n:=x.n,s:=x.s,kids:=x.kids }:Nd)) rfl (ns:=ns) hx;refine zbc ?_;refine OA rfl rfl (GL.Dg rfl rfl jK bD rfl rfl rfl rfl ?_);refine GL.nil (bc (dW.mk zf5 ?_))
    refine zdY ?_;refine ⟨_,_,Wk.aH ao,c4,⟨p.globals,p.arrays,p.fns,p.nodes.set i ({ kind:=z,at_:=x.at_,n:=x.n,s:=x.s,kids:=x.kids }:Nd)⟩,_,_,_,_,ns,rfl,?_,uq,⟨HG.g,HG.a,HG.f,HG.n.same hx rfl⟩,?_,wj fQ i ?_,by rw [length_set];exact hi⟩
    ·exact zck
    ·have:=CG p i x ({ kind:=z,at_:=x.at_,n:=x.n,s:=x.s,kids:=x.kids }:Nd) hx;simp only at *;omega
    ·exact zeL
   ·have fm:((k:Int)==0)=false:=by simpa using hk
    refine D ?_;exact ⟨_,_,Wk.aH ao,qK.next ⟨c3,p,_,_,_,_,ns,rfl,rfl,i3,HG,hw,fQ,hi⟩⟩
  rintro _ _ ⟨c,p,_,_,_,_,ns,rfl,rfl,ic,⟨⟨ag,cg,rfl⟩,⟨aa,ca,rfl⟩,⟨af,cf,rfl⟩,⟨⟨an,cn,rfl⟩,N2,N3⟩⟩,hw,fQ,hi⟩;have HG:qL p (.slice ag p.globals.length cg) (.slice aa p.arrays.length ca) (.slice af p.fns.length cf) (.slice an p.nodes.length cn) ns:=⟨⟨_,_,rfl⟩,⟨_,_,rfl⟩,⟨_,_,rfl⟩,⟨⟨_,_,rfl⟩,N2,N3⟩⟩;refine zbd ?_;refine GW.join (qK code k i 2) ?_ ?_
  ·by_cases hk:(k:Int)=1
   ·have fm:((k:Int)==1)=true:=by rw [hk];rfl
    obtain ⟨x,hx⟩:∃ x,p.nodes[i]?=some x:=⟨p.nodes[i]'X,bV _⟩;obtain ⟨y,hy⟩:∃ y,ns[i]?=some y:=⟨ns[i]'X,bV _⟩
    have bD:(List.zipWith ei p.nodes ns)[i]?=some [.v (ii x.kind),.v (ii x.at_),.v (ii x.n),.v (sv x.s),.v y]:=by rw [getElem?_zipWith,hx,hy];rfl
    have jK:(List.zipWith ei p.nodes ns).length=p.nodes.length:=by rw [va];omega
    have g3:=hB 6 c ic;have uq:=WS 6 c ic;have r3:=cK code c (n:=6) X;generalize bd code 6 c=a at *;obtain ⟨z,c4⟩:=a;simp only at g3 uq r3;obtain ⟨q,rfl⟩:∃ q:Nat,z=(q:Int):=⟨z.toNat,by omega⟩;have hr:=rf (l:=[[],[88],[119,104,105,108,101],[111,107],[43],[45]]) (m:=q) (by show q < 6;omega);have hp:=nb (l:=[[],[88],[119,104,105,108,101],[111,107],[43],[45]]) (n:=5) aD (q:Int);generalize nX [[],[88],[119,104,105,108,101],[111,107],[43],[45]] (q:Int)=sg at *;have e1:=xi (o:=3) (g:=.v (sv sg)) (x:=x) (x':=({ kind:=x.kind,at_:=x.at_,n:=x.n,s:=sg,kids:=x.kids }:Nd)) (fun y=>rfl) N2 hx;have e2:=xr (x:=x) (x':=({ kind:=x.kind,at_:=x.at_,n:=x.n,s:=sg,kids:=x.kids }:Nd)) rfl (ns:=ns) hx;refine D ?_;refine aM (ax 0 3 (.q 4 (.f 3 (.a 5 (ax 6 4 (.a 10 .nil))) 5 (.a 3 (ax 6 4 (.a 10 .nil)))))) ?_;refine aj ?_;refine GO.fork ?_ ?_
    ·refine zat ?_;refine ou [0] g3 ?_;simp only [dN];refine zaE ?_;refine OA rfl rfl (GL.Dg rfl rfl jK bD rfl rfl rfl rfl ?_);refine GL.nil (bc (dW.mk zf5 ?_))
     refine zdY ?_;refine ⟨_,_,Wk.aH ao,c4,⟨p.globals,p.arrays,p.fns,p.nodes.set i ({ kind:=x.kind,at_:=x.at_,n:=x.n,s:=sg,kids:=x.kids }:Nd)⟩,_,_,_,_,ns,rfl,?_,uq,⟨HG.g,HG.a,HG.f,HG.n.same hx rfl⟩,?_,wj fQ i ?_,by rw [length_set];exact hi⟩
     ·exact zck
     ·exact zdn
     ·exact zeL
    ·refine ou [0] g3 ?_;simp only [dN];refine zcg ?_;refine OQ rfl (YG.jS 7 rfl rfl rfl jK hi) ?_;refine l7 ?_;refine aj ?_;refine OA rfl rfl (GL.Dg rfl rfl jK bD rfl rfl rfl rfl ?_);refine GL.nil (bc (dW.mk zf5 ?_))
     refine zdY ?_;refine ⟨_,_,Wk.aH ao,c4,⟨p.globals,p.arrays,p.fns,p.nodes.set i ({ kind:=x.kind,at_:=x.at_,n:=x.n,s:=sg,kids:=x.kids }:Nd)⟩,_,_,_,_,ns,rfl,?_,uq,⟨HG.g,HG.a,HG.f,HG.n.same hx rfl⟩,?_,wj fQ i ?_,by rw [length_set];exact hi⟩
     ·exact zck
     ·exact zdn
     ·exact zeL
   ·have fm:((k:Int)==1)=false:=by simpa using hk
    exact zar
  rintro _ _ ⟨c,p,_,_,_,_,ns,rfl,rfl,ic,⟨⟨ag,cg,rfl⟩,⟨aa,ca,rfl⟩,⟨af,cf,rfl⟩,⟨⟨an,cn,rfl⟩,N2,N3⟩⟩,hw,fQ,hi⟩;have HG:qL p (.slice ag p.globals.length cg) (.slice aa p.arrays.length ca) (.slice af p.fns.length cf) (.slice an p.nodes.length cn) ns:=⟨⟨_,_,rfl⟩,⟨_,_,rfl⟩,⟨_,_,rfl⟩,⟨⟨_,_,rfl⟩,N2,N3⟩⟩;refine zbd ?_;refine GW.join (qK code k i 3) ?_ ?_
  ·by_cases hk:(k:Int)=2
   ·have fm:((k:Int)==2)=true:=by rw [hk];rfl
    obtain ⟨x,hx⟩:∃ x,p.nodes[i]?=some x:=⟨p.nodes[i]'X,bV _⟩;obtain ⟨y,hy⟩:∃ y,ns[i]?=some y:=⟨ns[i]'X,bV _⟩
    have bD:(List.zipWith ei p.nodes ns)[i]?=some [.v (ii x.kind),.v (ii x.at_),.v (ii x.n),.v (sv x.s),.v y]:=by rw [getElem?_zipWith,hx,hy];rfl
    have jK:(List.zipWith ei p.nodes ns).length=p.nodes.length:=by rw [va];omega
    have g3:=hR c ic;have uq:=BM (code:=code) ic;have r3:=xf code c;generalize uL code c=a at *;obtain ⟨z,c4⟩:=a;simp only at g3 uq r3;have e1:=xi (o:=2) (g:=.v (ii z)) (x:=x) (x':=({ kind:=x.kind,at_:=x.at_,n:=z,s:=x.s,kids:=x.kids }:Nd)) (fun y=>rfl) N2 hx;have e2:=xr (x:=x) (x':=({ kind:=x.kind,at_:=x.at_,n:=z,s:=x.s,kids:=x.kids }:Nd)) rfl (ns:=ns) hx;refine zbc ?_;refine OA rfl rfl (GL.Dg rfl rfl jK bD rfl rfl rfl rfl ?_);refine GL.nil (bc (dW.mk zf5 ?_))
    refine zdY ?_;refine ⟨_,_,Wk.aH ao,c4,⟨p.globals,p.arrays,p.fns,p.nodes.set i ({ kind:=x.kind,at_:=x.at_,n:=z,s:=x.s,kids:=x.kids }:Nd)⟩,_,_,_,_,ns,rfl,?_,uq,⟨HG.g,HG.a,HG.f,HG.n.same hx rfl⟩,?_,wj fQ i ?_,by rw [length_set];exact hi⟩
    ·exact zck
    ·have:=CG p i x ({ kind:=x.kind,at_:=x.at_,n:=z,s:=x.s,kids:=x.kids }:Nd) hx;simp only at *;omega
    ·exact r3
   ·have fm:((k:Int)==2)=false:=by simpa using hk
    exact zar
  rintro _ _ ⟨c,p,_,_,_,_,ns,rfl,rfl,ic,⟨⟨ag,cg,rfl⟩,⟨aa,ca,rfl⟩,⟨af,cf,rfl⟩,⟨⟨an,cn,rfl⟩,N2,N3⟩⟩,hw,fQ,hi⟩;have HG:qL p (.slice ag p.globals.length cg) (.slice aa p.arrays.length ca) (.slice af p.fns.length cf) (.slice an p.nodes.length cn) ns:=⟨⟨_,_,rfl⟩,⟨_,_,rfl⟩,⟨_,_,rfl⟩,⟨⟨_,_,rfl⟩,N2,N3⟩⟩;refine zbd ?_;refine GW.join (qK code k i 4) ?_ ?_
  ·by_cases hk:(k:Int)=3
   ·have fm:((k:Int)==3)=true:=by rw [hk];rfl
    obtain ⟨x,hx⟩:∃ x,p.nodes[i]?=some x:=⟨p.nodes[i]'X,bV _⟩;obtain ⟨y,hy⟩:∃ y,ns[i]?=some y:=⟨ns[i]'X,bV _⟩
    have bD:(List.zipWith ei p.nodes ns)[i]?=some [.v (ii x.kind),.v (ii x.at_),.v (ii x.n),.v (sv x.s),.v y]:=by rw [getElem?_zipWith,hx,hy];rfl
    have jK:(List.zipWith ei p.nodes ns).length=p.nodes.length:=by rw [va];omega
    obtain ⟨a3,d3,rfl⟩:=N3 i x y hx hy
    have uj:p.nodes.length<=1000000:=by have:=(sF p).2.2.2;omega
    have aej:x.kids.length<=1000000:=by have:=adQ hx;omega
    have eh:(be x.kids).length=x.kids.length:=by simp [be]
    have iQ:(List.zipWith kz p.nodes ns)[i]?=some (.vech 3 1 (be x.kids) (.slice a3 x.kids.length d3)):=by rw [getElem?_zipWith,hx,hy];rfl
    have hrk:=fun (y:Value)=>BO (x.kids++[((p.nodes.length:Int) - 1)]) y N2 hx
    have fA:=fun (y:Value)=>BL (x.kids++[((p.nodes.length:Int) - 1)]) y N2 hx
    have oz:be (x.kids++[((p.nodes.length:Int) - 1)])=be x.kids++[[.v (ii ((p.nodes.length:Int) - 1))]]:=by simp [be]
    rw [oz] at fA
    have lg:=fun (a:Option Addr) (c:Nat)=>HG.n.put hx (x.kids++[((p.nodes.length:Int) - 1)]) (b:=a) (d:=c) (n:=(be x.kids).length+1) (by simp [be])
    have xI:∀ x0 x1 x2 x3 x4 x5 x6 x7:Ob,(x0::x1::x2::x3::x4::x5::x6::x7::List.zipWith kz p.nodes ns)[i+8]?=some (.vech 3 1 (be x.kids) (.slice a3 x.kids.length d3)):=fun _ _ _ _ _ _ _ _=>iQ
    refine D ?_;refine aM (ax 0 13 (.a 13 (.a 14 (.q 15 (.q 16 (.a 17 .nil)))))) ?_;refine zaE ?_;refine OA rfl rfl (GL.mkF rfl rfl rfl rfl (GL.nil (bc (dW.mk zf6 ?_))))
    refine lF dv ew ?_;refine aj ?_;refine OA rfl rfl (GL.nF (i+8) (news:=[[.v (ii ((p.nodes.length:Int) - 1))]]) rfl rfl (xI _ _ _ _ _ _ _ _) rfl rfl rfl ⟨by show _+1<=_;omega,by show (_+1) * _<=_;omega⟩ ?_);intro a4 c4;refine GL.nil (bc (dW.mk zf6 ?_))
    refine lF dv (by simp only [oset];rw [fA]) ?_;refine zaE ?_;refine OA rfl rfl (GL.Dg rfl rfl jK bD rfl rfl rfl rfl ?_);refine GL.nil (bc (dW.mk zf5 ?_))
    refine zdY ?_;rw [hrk];refine ⟨_,_,Wk.aH ao,c,⟨p.globals,p.arrays,p.fns,p.nodes.set i (fg x (x.kids++[((p.nodes.length:Int) - 1)]))⟩,_,_,_,_,_,rfl,rfl,ic,⟨HG.g,HG.a,HG.f,lg _ _⟩,?_,wj fQ i ?_,by rw [length_set];exact hi⟩
    ·have:=CG p i x (fg x (x.kids++[((p.nodes.length:Int) - 1)])) hx;unfold fg at *;simp only [aL,length_cons,length_nil] at *;omega
    ·exact zeL
   ·have fm:((k:Int)==3)=false:=by simpa using hk
    exact zar
  rintro _ _ ⟨c,p,_,_,_,_,ns,rfl,rfl,ic,⟨⟨ag,cg,rfl⟩,⟨aa,ca,rfl⟩,⟨af,cf,rfl⟩,⟨⟨an,cn,rfl⟩,N2,N3⟩⟩,hw,fQ,hi⟩;have HG:qL p (.slice ag p.globals.length cg) (.slice aa p.arrays.length ca) (.slice af p.fns.length cf) (.slice an p.nodes.length cn) ns:=⟨⟨_,_,rfl⟩,⟨_,_,rfl⟩,⟨_,_,rfl⟩,⟨⟨_,_,rfl⟩,N2,N3⟩⟩;refine zbd ?_;refine GW.join (qK code k i 5) ?_ ?_
  ·by_cases hk:(k:Int)=4
   ·have fm:((k:Int)==4)=true:=by rw [hk];rfl
    obtain ⟨x,hx⟩:∃ x,p.nodes[i]?=some x:=⟨p.nodes[i]'X,bV _⟩;obtain ⟨y,hy⟩:∃ y,ns[i]?=some y:=⟨ns[i]'X,bV _⟩
    have bD:(List.zipWith ei p.nodes ns)[i]?=some [.v (ii x.kind),.v (ii x.at_),.v (ii x.n),.v (sv x.s),.v y]:=by rw [getElem?_zipWith,hx,hy];rfl
    have jK:(List.zipWith ei p.nodes ns).length=p.nodes.length:=by rw [va];omega
    have g3:=hR c ic;have uq:=BM (code:=code) ic;have r3:=xf code c;generalize uL code c=a at *;obtain ⟨z,c4⟩:=a;simp only at g3 uq r3;have e1:=xi (o:=1) (g:=.v (ii z)) (x:=x) (x':=({ kind:=x.kind,at_:=z,n:=x.n,s:=x.s,kids:=x.kids }:Nd)) (fun y=>rfl) N2 hx;have e2:=xr (x:=x) (x':=({ kind:=x.kind,at_:=z,n:=x.n,s:=x.s,kids:=x.kids }:Nd)) rfl (ns:=ns) hx;refine zbc ?_;refine OA rfl rfl (GL.Dg rfl rfl jK bD rfl rfl rfl rfl ?_);refine GL.nil (bc (dW.mk zf5 ?_))
    refine zdY ?_;refine ⟨_,_,Wk.aH ao,c4,⟨p.globals,p.arrays,p.fns,p.nodes.set i ({ kind:=x.kind,at_:=z,n:=x.n,s:=x.s,kids:=x.kids }:Nd)⟩,_,_,_,_,ns,rfl,?_,uq,⟨HG.g,HG.a,HG.f,HG.n.same hx rfl⟩,?_,wj fQ i ?_,by rw [length_set];exact hi⟩
    ·exact zck
    ·have:=CG p i x ({ kind:=x.kind,at_:=z,n:=x.n,s:=x.s,kids:=x.kids }:Nd) hx;simp only at *;omega
    ·exact zeL
   ·have fm:((k:Int)==4)=false:=by simpa using hk
    exact zar
  rintro _ _ ⟨c,p,_,_,_,_,ns,rfl,rfl,ic,⟨⟨ag,cg,rfl⟩,⟨aa,ca,rfl⟩,⟨af,cf,rfl⟩,⟨⟨an,cn,rfl⟩,N2,N3⟩⟩,hw,fQ,hi⟩;have HG:qL p (.slice ag p.globals.length cg) (.slice aa p.arrays.length ca) (.slice af p.fns.length cf) (.slice an p.nodes.length cn) ns:=⟨⟨_,_,rfl⟩,⟨_,_,rfl⟩,⟨_,_,rfl⟩,⟨⟨_,_,rfl⟩,N2,N3⟩⟩;unfold qO da;simp only [cons_append,nil_append];refine GW.seq ?_;refine GW.seq ?_;refine GW.join (fun fr Γ=>∃ (b:Bool) (c:dx) (p:Src) (hg ha hf hn:Value) (ns:List Value),fr=[.loc 0 0,U,.loc 1 0,.loc 6 0,.v (ii (k:Nat)),.v (ii (i:Nat)),U,U,U,U,U,U,U,U,U,U,U,U,U,U,U,U,U,U,U,U,U,U,U,U,U,U,U,U,U,U,U,U,U,U,U,U,U,U,U,U,U,U,U,U,U,U,U,U,U,U,U,U,U,U,U,U,U,U,U,U,U,U,U,U,U,U,U,U,U,U,U,U,U,U,U,U,U,U,U,.v (.bool b),U,U,U,U,U,U,U,U,U,U,U,U,U,U,U,U,U]/\Γ=qO code c p hg ha hf hn ns/\c.i<=code.length/\qL p hg ha hf hn ns/\b7 p<=600000+10 * 5/\ma p/\i < p.nodes.length/\(b=true->0 < p.fns.length)) ?_ ?_
  ·by_cases hk:(k:Int)=5
   ·have fm:((k:Int)==5)=true:=by rw [hk];rfl
    refine D ?_;exact ⟨_,_,Wk.aH ao,decide ((0:Int) < (p.fns.length:Int)),c,p,_,_,_,_,ns,rfl,rfl,ic,HG,hw,fQ,hi,fun h=>by have:=n8 h;omega⟩
   ·have fm:((k:Int)==5)=false:=by simpa using hk
    refine D ?_;exact ⟨_,_,Wk.aH ao,false,c,p,_,_,_,_,ns,rfl,rfl,ic,HG,hw,fQ,hi,fun h=>by cases h⟩
  rintro _ _ ⟨b,c,p,_,_,_,_,ns,rfl,rfl,ic,⟨⟨ag,cg,rfl⟩,⟨aa,ca,rfl⟩,⟨af,cf,rfl⟩,⟨⟨an,cn,rfl⟩,N2,N3⟩⟩,hw,fQ,hi,M9⟩;have HG:qL p (.slice ag p.globals.length cg) (.slice aa p.arrays.length ca) (.slice af p.fns.length cf) (.slice an p.nodes.length cn) ns:=⟨⟨_,_,rfl⟩,⟨_,_,rfl⟩,⟨_,_,rfl⟩,⟨⟨_,_,rfl⟩,N2,N3⟩⟩;refine zbd ?_;refine GW.join (qK code k i 6) ?_ ?_
  ·cases b with
   | true =>
    have M9:=M9 rfl
    obtain ⟨f,r,sS⟩:∃ f r,p.fns=f::r:=by
     cases hq:p.fns with
     | nil=>rw [hq] at M9;exact absurd M9 (Nat.lt_irrefl 0)
     | cons f r=>exact ⟨f,r,rfl⟩
    have g3:=hR c ic;have uq:=BM (code:=code) ic;have r3:=xf code c;generalize uL code c=a at *;obtain ⟨z,c4⟩:=a;simp only at g3 uq r3
    have bD:(p.fns.map aw)[0]?=some [.v (sv f.name),strs f.params,.v (ii f.body)]:=by rw [sS];rfl
    have vn:0 < (p.fns.map aw).length:=by rw [sS];exact Nat.succ_pos _
    refine D ?_;refine aM (ax 0 3 (.a 3 (.q 4 (.q 5 (.a 6 .nil))))) ?_;refine aj ?_;refine ou [0] g3 ?_;simp only [dN];refine aj ?_;refine OA rfl rfl (GL.Dg rfl rfl rfl bD rfl rfl rfl rfl ?_);refine GL.nil (bc (dW.mk (by repeat (first | exact di.n | (apply di.w;(· decide +kernel)) | (apply di.y;(· first | (apply YQ.t;(· exact rfl);(· exact rfl);(· (first | exact YG.Xq 4 0 rfl rfl rfl rfl (eQ _ _ _ _) vn | (first | exact fU | (apply K.idx;first | exact YG.idxV rfl rfl rfl az X | exact YG.aP 0 rfl rfl rfl aE | exact YG.aP 1 rfl rfl rfl aE | exact YG.aP 2 rfl rfl rfl aE | exact YG.aP 3 rfl rfl rfl aE | exact YG.aP 4 rfl rfl rfl aE | exact YG.aP 5 rfl rfl rfl aE | exact YG.aP 6 rfl rfl rfl aE) | exact fX | exact YG.fT 1 rfl rfl az az | exact YG.mv | exact YG.mG | (apply K.bin;first | exact YG.go rfl | exact YG.kG rfl rfl X | exact YG.jt rfl rfl | exact YG.ju rfl rfl | exact YG.oO rfl rfl | exact YG.oY rfl rfl | exact YG.cat rfl rfl X | exact YG.cat rfl rfl zgl | exact YG.addN rfl rfl X | exact YG.add rfl rfl X | exact YG.sub rfl rfl X | exact YG.mul rfl rfl X | exact YG.ml rfl rfl X | exact YG.quo rfl rfl X | exact YG.rem rfl rfl X | exact YG.iH rfl rfl) | exact fK | exact fJ | exact gQ | exact fa | exact fp | (apply K.idx;first | exact YG.hO rfl rfl aJ | exact YG.cq rfl rfl aJ rfl | exact YG.cq rfl rfl aJ X | exact YG.kJ rfl rfl X) | exact YG.ext rfl rfl | exact YG.go rfl | (apply K.qm;first | exact YG.mj rfl rfl rfl X | exact YG.mi rfl rfl X | exact YG.mh rfl rfl X | exact YG.gz 1 rfl rfl rfl az) | exact YG.jC rfl rfl aJ | exact YG.idxSC rfl rfl aJ rfl | exact fq | exact YG.build rfl | exact YG.neg rfl X | exact YG.jz rfl rfl | exact YG.nO rfl zgh | exact YG.str rfl az)))) | (apply YQ.t;(· exact rfl);(· apply rN;(· exact rfl);(· first | exact rfl | assumption));(· (first | exact YG.Xq 4 0 rfl rfl rfl rfl (eQ _ _ _ _) vn | (first | exact fU | (apply K.idx;first | exact YG.idxV rfl rfl rfl az X | exact YG.aP 0 rfl rfl rfl aE | exact YG.aP 1 rfl rfl rfl aE | exact YG.aP 2 rfl rfl rfl aE | exact YG.aP 3 rfl rfl rfl aE | exact YG.aP 4 rfl rfl rfl aE | exact YG.aP 5 rfl rfl rfl aE | exact YG.aP 6 rfl rfl rfl aE) | exact fX | exact YG.fT 1 rfl rfl az az | exact YG.mv | exact YG.mG | (apply K.bin;first | exact YG.go rfl | exact YG.kG rfl rfl X | exact YG.jt rfl rfl | exact YG.ju rfl rfl | exact YG.oO rfl rfl | exact YG.oY rfl rfl | exact YG.cat rfl rfl X | exact YG.cat rfl rfl zgl | exact YG.addN rfl rfl X | exact YG.add rfl rfl X | exact YG.sub rfl rfl X | exact YG.mul rfl rfl X | exact YG.ml rfl rfl X | exact YG.quo rfl rfl X | exact YG.rem rfl rfl X | exact YG.iH rfl rfl) | exact fK | exact fJ | exact gQ | exact fa | exact fp | (apply K.idx;first | exact YG.hO rfl rfl aJ | exact YG.cq rfl rfl aJ rfl | exact YG.cq rfl rfl aJ X | exact YG.kJ rfl rfl X) | exact YG.ext rfl rfl | exact YG.go rfl | (apply K.qm;first | exact YG.mj rfl rfl rfl X | exact YG.mi rfl rfl X | exact YG.mh rfl rfl X | exact YG.gz 1 rfl rfl rfl az) | exact YG.jC rfl rfl aJ | exact YG.idxSC rfl rfl aJ rfl | exact fq | exact YG.build rfl | exact YG.neg rfl X | exact YG.jz rfl rfl | exact YG.nO rfl zgh | exact YG.str rfl az)))) | (apply YQ.f;(· exact rfl);(· apply sy;(· exact rfl);(· first | exact rfl | assumption))))))) ?_))
    refine zdY ?_;refine ⟨_,_,Wk.aH ao,c4,⟨p.globals,p.arrays,({ name:=f.name,params:=f.params,body:=z }:Go.Sp.Fn)::r,p.nodes⟩,_,_,.slice af p.fns.length cf,_,ns,rfl,?_,uq,⟨HG.g,HG.a,?_,HG.n⟩,?_,⟨fQ.arrays,fQ.nodes⟩,hi⟩
    ·unfold qO da;simp only;rw [sS];rfl
    ·exact ⟨_,_,by rw [sS];rfl⟩
    ·have:=acM p f ({ name:=f.name,params:=f.params,body:=z }:Go.Sp.Fn) r sS rfl rfl;omega
   | false =>
    exact zar
  rintro _ _ ⟨c,p,_,_,_,_,ns,rfl,rfl,ic,⟨⟨ag,cg,rfl⟩,⟨aa,ca,rfl⟩,⟨af,cf,rfl⟩,⟨⟨an,cn,rfl⟩,N2,N3⟩⟩,hw,fQ,hi⟩;have HG:qL p (.slice ag p.globals.length cg) (.slice aa p.arrays.length ca) (.slice af p.fns.length cf) (.slice an p.nodes.length cn) ns:=⟨⟨_,_,rfl⟩,⟨_,_,rfl⟩,⟨_,_,rfl⟩,⟨⟨_,_,rfl⟩,N2,N3⟩⟩;refine zbd ?_;refine GW.join (qK code k i 7) ?_ ?_
  ·by_cases hk:(k:Int)=6
   ·have fm:((k:Int)==6)=true:=by rw [hk];rfl
    have g3:=hR c ic;have uq:=BM (code:=code) ic;have r3:=xf code c;generalize uL code c=a at *;obtain ⟨z,c4⟩:=a;simp only at g3 uq r3
    have hal:p.arrays.length<=1000000:=by have:=(sF p).2.1;omega
    have jK:(p.arrays.map bg).length=p.arrays.length:=bM _;refine D ?_;refine aM (ax 0 3 (.a 3 (.q 4 (.a 5 (.a 6 (.q 7 (.a 8 .nil))))))) ?_;refine aj ?_;refine ou [0] g3 ?_;simp only [dN];refine zcg ?_;refine OA rfl rfl (GL.nF 3 (news:=[[.v (sv [122,122]),.v (ii z)]]) rfl rfl rfl jK rfl rfl ⟨by show _+1<=_;omega,by show (_+1) * _<=_;omega⟩ ?_);intro a5 c5;refine zaL ?_;refine ⟨_,_,Wk.aH ao,c4,⟨p.globals,p.arrays++[⟨[122,122],z⟩],p.fns,p.nodes⟩,_,.slice a5 (p.arrays.length+1) c5,_,_,ns,rfl,?_,uq,⟨HG.g,⟨a5,c5,?_⟩,HG.f,HG.n⟩,?_,⟨fun a ha=>?_,fQ.nodes⟩,hi⟩
    ·unfold qO da;simp only;rw [l9];rfl
    ·simp
    ·rw [acL];exact zeA
    ·rcases mo ha with ha | ha
     ·exact fQ.arrays a ha
     ·rw [mem_singleton] at ha;subst ha;exact r3
   ·have fm:((k:Int)==6)=false:=by simpa using hk
    exact zar
  rintro _ _ ⟨c,p,_,_,_,_,ns,rfl,rfl,ic,⟨⟨ag,cg,rfl⟩,⟨aa,ca,rfl⟩,⟨af,cf,rfl⟩,⟨⟨an,cn,rfl⟩,N2,N3⟩⟩,hw,fQ,hi⟩;have HG:qL p (.slice ag p.globals.length cg) (.slice aa p.arrays.length ca) (.slice af p.fns.length cf) (.slice an p.nodes.length cn) ns:=⟨⟨_,_,rfl⟩,⟨_,_,rfl⟩,⟨_,_,rfl⟩,⟨⟨_,_,rfl⟩,N2,N3⟩⟩;refine GW.wk (cV:=[.loc 0 0,U,.loc 1 0,.loc 6 0,U,U,U,U,U,U,U,U,U,U,U,U,U,U,U,U,U,U,U,U,U,U,U,U,U,U,U,U,U,U,U,U,U,U,U,U,U,U,U,U,U,U,U,U,U,U,U,U,U,U,U,U,U,U,U,U,U,U,U,U,U,U,U,U,U,U,U,U,U,U,U,U,U,U,U,U,U,U,U,U,U,U,U,U,U,U,U,U,U,U,U,U,U,U,U,U,U,U,U]) (aZ:=[gS code c,.box 28 [.v (.slice none 0 0),.v (.slice none 0 0),.v (.slice none 0 0),.v (.slice none 0 0)],.vec 9 1 (br p.globals).length (br p.globals),.vec 98 2 (p.arrays.map bg).length (p.arrays.map bg),.vec 65 3 (p.fns.map aw).length (p.fns.map aw),.gone,.box 28 (aq p)]) ?_ ?_
  ·refine Wk.trans (Wk.NY (code:=code) (c:=c) HG ?_) ?_
   ·exact c6 rfl
   ·exact Wk.aH ao
  refine D ?_;refine gY ?_;exact ⟨c,p,ic,by omega,fQ,rfl,rfl⟩
end Go.Xg
namespace Go.Xg
open Go.RowKit Go.Xw Go.Proofs Tryz Go.Sp Go.Im
open GV (U)
theorem Y3 {K:Fz} {β:Bt} {v a b c d x y:Value} (h:Rel K β v (.tup [.agg [.v a,.v b,.v c,.v d],.v x,.v y])):v=.tuple #[.agg #[a,b,c,d],x,y]:=by
 cases h with
 | tup vs cs hl h =>
  match vs,hl with
  | [v0,v1,v2],_ =>
   have h0:=Uw (h 0 _ _ rfl rfl);have I:=(h 1 _ _ rfl rfl).eJ;have G:=(h 2 _ _ rfl rfl).eJ;subst h0;subst I;subst G;rfl
theorem Y4 {K:Fz} (β:Bt) {hg ha hf hn x y:Value} {p:Src} (e:bC K (fun _=>Bk.no) [hg,ha,hf,hn] (aq p)):Rel K β (.tuple #[.agg #[hg,ha,hf,hn],x,y]) (.tup [.agg (aq p),.v x,.v y]):=by
 have e2:bC K β [hg,ha,hf,hn] (aq p):=bC.th e (Q3 p);have hc:bC K β [.agg #[hg,ha,hf,hn],x,y] [.agg (aq p),.v x,.v y]:=.cons (.agg [hg,ha,hf,hn] _ e2.1 e2.2) (.cons (.v _) (.cons (.v _) .nil));exact .tup [.agg #[hg,ha,hf,hn],x,y] _ hc.1 hc.2
theorem B4 (s:ae) (hs:s.length<=1000000000000):GC prog 95 [.v (sv s)] [] fun g Δ=>Δ=[]/\∃ p c z,b7 p<=600000/\ma p/\g=.tup [.agg (aq p),.v (ii c),.v (ii z)]:=fun B K β w vs hm hI hF =>
 (Fw s hs B K β w vs hm hI hF).mono fun v w' ⟨K',b9,g,aZ,bE,hr,p,hg,ha,hf,hn,ns,c,z,HG,hw,fQ,nw,bH⟩=>by
  subst nw;subst bH;obtain ⟨β2,b1,_,_,i1⟩:=bE.unpack (i:=3) (N:=da p.nodes hn ns) rfl;obtain ⟨K1,k1,q1,i2⟩:=i1.sr (i:=0) (E:=9) (k:=1) (rows:=br p.globals) (x:=hg) rfl;obtain ⟨K2,k2,q2,i3⟩:=i2.sr (i:=1) (E:=98) (k:=2) (rows:=p.arrays.map bg) (x:=ha) rfl;obtain ⟨K3,k3,q3,i4⟩:=i3.sr (i:=2) (E:=65) (k:=3) (rows:=p.fns.map aw) (x:=hf) rfl;obtain ⟨K4,k4,q4,i5⟩:=i4.xT (A:=[.vec 9 1 (br p.globals).length (br p.globals),.vec 98 2 (p.arrays.map bg).length (p.arrays.map bg),.vec 65 3 (p.fns.map aw).length (p.fns.map aw),.gone]) HG.n rfl (by rw [hm];exact aS _) rfl;have hv:=Y3 hr;subst hv;have b:=eg.refl (fun _=>Bk.no);refine ⟨K4,_,.tup [.agg (aq p),.v (ii c),.v (ii z)],[],i5.cut (n:=0) zhe rfl,?_,rfl,p,c,z,hw,fQ,rfl⟩;have e:bC K4 (fun _=>Bk.no) [hg,ha,hf,hn] (aq p):=.cons ((q1.pc (b9:=fun _=>Bk.no) rfl).mono (k2.trans (k3.trans k4)) b) (.cons ((q2.pc (b9:=fun _=>Bk.no) rfl).mono (k3.trans k4) b) (.cons ((q3.pc (b9:=fun _=>Bk.no) rfl).mono k4 b) (.cons q4 .nil)));exact Y4 _ e
def TxR (code:ae) (g:GV) (Δ:List Ob):Prop:=∃ (s:ae) (c:dx),c.i<=code.length/\s.length<=1000/\g=.v (sv s)/\Δ=[gS code c]
attribute [local irreducible] GW GL GO YG GC GA aU aW pE sI qJ
theorem SH (code:ae) (hl:code.length<=1099511627776) (c:dx) (hc:c.i<=code.length) :
  GC prog 164 [.loc 0 0] [gS code c] (TxR code):=by
 have I:=cW code 25 c hl hc;have r1:=cK code c (n:=25) X;have i1:=cw (code:=code) 25 hc;generalize bd code 25 c=a at *;obtain ⟨k,c1⟩:=a;simp only at I r1 i1;obtain ⟨k,rfl⟩:∃ q:Nat,k=(q:Int):=⟨k.toNat,by omega⟩;refine ai func164 ntmps164 ?_;refine zam ?_;refine zfI ?_;refine GL.Ir 1000 rfl rfl (by decide +kernel) (by show k < 25;omega) rfl ?_;intro s hs;exact zfT
theorem SL (code:ae) (hl:code.length<=1099511627776) (c:dx) (hc:c.i<=code.length) :
  GC prog 168 [.loc 0 0] [gS code c] (TxR code):=by
 have I:=cW code 8 c hl hc;have r1:=cK code c (n:=8) X;have i1:=cw (code:=code) 8 hc;generalize bd code 8 c=a at *;obtain ⟨k,c1⟩:=a;simp only at I r1 i1;obtain ⟨k,rfl⟩:∃ q:Nat,k=(q:Int):=⟨k.toNat,by omega⟩;refine ai func168 ntmps168 ?_;refine zam ?_;refine zfI ?_;refine GL.Ir 1000 rfl rfl (by decide +kernel) (by show k < 8;omega) rfl ?_;intro s hs;exact zfT
theorem C9 (code:ae) (hl:code.length<=1099511627776) (c:dx) (hc:c.i<=code.length) :
  GC prog 96 [.loc 0 0] [gS code c] (IK code):=by
 have I:=cW code 3 c hl hc;have i1:=cw (code:=code) 3 hc;generalize bd code 3 c=a at *;obtain ⟨k,c1⟩:=a;simp only at I i1
 by_cases hk:0 < k
 ·have fm:decide ((0:Int) < k)=true:=by simpa using hk
  refine ai func96 ntmps96 ?_;refine zfI ?_;refine bA [0] (Vp code hl c1 i1) ?_;rintro _ _ ⟨c2,p,i2,hw,hn,rfl,rfl⟩;exact za7
 ·have fm:decide ((0:Int) < k)=false:=by simpa using hk
  refine ai func96 ntmps96 ?_;refine zfI ?_;refine bA [0] (SH code hl c1 i1) ?_;rintro _ _ ⟨s,c2,i2,hs,rfl,rfl⟩;refine zas ?_;exact zaX
theorem L4 (code:ae) (hl:code.length<=1099511627776) (c:dx) (hc:c.i<=code.length) :
  GC prog 106 [.loc 0 0] [gS code c] (IK code):=by
 have I:=cW code 2 c hl hc;have i1:=cw (code:=code) 2 hc;generalize bd code 2 c=a at *;obtain ⟨k,c1⟩:=a;simp only at I i1
 by_cases hk:k=0
 ·have fm:(k==0)=true:=by simpa using hk
  refine ai func106 ntmps106 ?_;exact zda
 ·have fm:(k==0)=false:=by simpa using hk
  refine ai func106 ntmps106 ?_;refine zfI ?_;refine bA [0] (SL code hl c1 i1) ?_;rintro _ _ ⟨s,c2,i2,hs,rfl,rfl⟩;refine zas ?_;exact zaX
def qk:List ae:=[[97],[98],[100],[101],[109,97,105,110]]
theorem yg (code:ae) (hl:code.length<=1099511627776) (c:dx) (hc:c.i<=code.length) :
  GC prog 51 [.loc 0 0] [gS code c] (IK code):=by
 have I:=cW code 3 c hl hc;have i1:=cw (code:=code) 3 hc;generalize bd code 3 c=a at *;obtain ⟨k,c1⟩:=a;simp only at I i1
 by_cases hk:k=0
 ·have fm:(k==0)=true:=by simpa using hk
  refine ai func51 ntmps51 ?_;refine zfI ?_;refine bA [0] (L4 code hl c1 i1) ?_;rintro _ _ ⟨c2,p,i2,hw,hn,rfl,rfl⟩;exact za7
 ·have fm:(k==0)=false:=by simpa using hk
  refine ai func51 ntmps51 ?_;refine zfI ?_;refine zam ?_;refine GW.range 5 (fun k fr Γ=>∃ out c,fr=[.loc 0 0,U,.loc 1 0,.v (sv out),strs qk,U,U,U,U,U,U,U,U,U,U,U,U,strs qk,.v (ii ((5:Nat):Int)),.v (ii (k:Nat)),U,U,U,U,U,U,U,U,U,U,U,U,U,U,U,U,U,U,U,U,U,U,U,U,U,U,U,U,U,U,U,U]/\Γ=[gS code c,.box 28 [.v (.slice none 0 0),.v (.slice none 0 0),.v (.slice none 0 0),.v (.slice none 0 0)]]/\c.i<=code.length/\out.length<=100 * k) ?_ X ?_ ?_ ?_
  ·exact ⟨_,_,Wk.aH ao,[],c1,rfl,rfl,i1,aS _⟩
  ·rintro k _ _ ⟨out,c,rfl,rfl,_,_⟩;exact dr
  ·rintro k _ _ W5 ⟨out,c,rfl,rfl,hc,ho⟩;have hr:=rf (l:=qk) (m:=k) (by show k < 5;omega);have hp:=nb (l:=qk) (n:=4) aD (k:Int);generalize nX qk (k:Int)=nm at *;have G:=cW code 3 c hl hc;have r2:=cK code c (n:=3) X;have i2:=cw (code:=code) 3 hc;generalize bd code 3 c=a at *;obtain ⟨n,c2⟩:=a;simp only at G r2 i2;obtain ⟨n,rfl⟩:∃ q:Nat,n=(q:Int):=⟨n.toNat,by omega⟩;refine D ?_;refine V [0] G ?_;refine GW.EO (fun fr Γ=>∃ out c,fr=[.loc 0 0,U,.loc 1 0,.v (sv out),strs qk,U,U,U,U,U,U,U,U,U,U,U,U,strs qk,.v (ii ((5:Nat):Int)),.v (ii (k:Nat)),U,U,U,U,U,U,U,U,U,U,U,U,U,U,U,U,U,U,U,U,U,U,U,U,U,U,U,U,U,U,U,U]/\Γ=[gS code c,.box 28 [.v (.slice none 0 0),.v (.slice none 0 0),.v (.slice none 0 0),.v (.slice none 0 0)]]/\c.i<=code.length/\out.length<=100 * k+90) ?_ ?_
   ·refine GW.loop (fun x:Nat=>x) (fun x fr Γ=>∃ out c,fr=[.loc 0 0,U,.loc 1 0,.v (sv out),strs qk,U,U,.v (ii (x:Nat)),U,U,U,U,U,U,U,U,U,strs qk,.v (ii ((5:Nat):Int)),.v (ii (k:Nat)),U,U,U,U,U,U,U,U,U,U,U,U,U,U,U,U,U,U,U,U,U,U,U,U,U,U,U,U,U,U,U,U]/\Γ=[gS code c,.box 28 [.v (.slice none 0 0),.v (.slice none 0 0),.v (.slice none 0 0),.v (.slice none 0 0)]]/\c.i<=code.length/\out.length+10 * x<=100 * k+90) n ?_ ?_
    ·exact ⟨_,_,Wk.aH ao,_,c2,rfl,rfl,i2,by simp only [aL,length_cons,length_nil];omega⟩
    ·rintro x _ _ ⟨out,c,rfl,rfl,hc,ho⟩
     cases x with
     | zero =>
      refine eE ?_;exact ⟨_,_,Wk.aH ao,out,c,rfl,rfl,hc,by omega⟩
     | succ x =>
      have qg:decide ((0:Int) < ((x+1:Nat):Int))=true:=decide_eq_true X
      have nC:(((x+1:Nat):Int) - 1)=(x:Int):=by omega
      have h3:=cW code 5 c hl hc;have r3:=cK code c (n:=5) X;have i3:=cw (code:=code) 5 hc;generalize bd code 5 c=a at *;obtain ⟨q,c3⟩:=a;simp only at h3 r3 i3;obtain ⟨q,rfl⟩:∃ q':Nat,q=(q':Int):=⟨q.toNat,by omega⟩;have hr3:=rf (l:=qk) (m:=q) (by show q < 5;omega);have Bp:=nb (l:=qk) (n:=4) aD (q:Int);generalize nX qk (q:Int)=nq at *;refine D ?_;refine V [0] h3 ?_;rw [nC];exact ⟨x,⟨_,_,Wk.aH ao,_,c3,rfl,rfl,i3,by simp only [aL,length_cons,length_nil];omega⟩,by omega⟩
   ·rintro _ _ ⟨out,c,rfl,rfl,hc,ho⟩;refine D ?_;exact ⟨rfl,rfl,_,_,Wk.aH ao,_,c,rfl,rfl,hc,by simp only [aL,length_cons,length_nil];omega⟩
  ·rintro _ _ ⟨out,c,rfl,rfl,hc,ho⟩;refine zcC ?_;refine bA [] (B4 out X) ?_;rintro _ _ ⟨rfl,p,z1,z2,hw,hn,rfl⟩;refine zas ?_;refine gY ?_;exact ⟨c,p,hc,by omega,hn,rfl,rfl⟩
end Go.Xg
namespace Go.Xg
open Go.RowKit Go.Xw Go.Proofs Go.Im
section
variable {P:Program} {m:Nat} {fr:List GV} {Γ:List Ob}
theorem Wk.keep {n j E k:Nat} {rows:List (List GV)} {x:Value} (hm:m<=n) (hnj:n<=j) (hl:vQ n (Γ.take n)=true) (hlen:(Γ.take n).length=n) (bH:Γ[j]?=some (.vech E k rows x)) :
  Wk m fr Γ (yc n fr) (Γ.take n++[.vech E k rows x]):=fun B K β w l hB hI hF=>by
 have h:=hI.cut (n:=n) X hl;obtain ⟨xs,o1,o2,o3,o4,o5⟩:=hI.ob j _ bH
 have WW:∀ b,(Bk.gr x rows.length).has b->(β j).has b:=fun b hb=>by rw [o1];exact hb
 have JL:fi (below n) β n=.no:=rA (ux (aI n));have hold:eg (fi (below n) β) (fZ (fi (below n) β) n (.gr x rows.length)):=kq (by rw [JL];trivial)
 have cS:∀ b,(β j).has b->∀ i,¬ (fi (below n) β i).has b:=fun b hb i hi=>by
  by_cases lR:i < n
  ·rw [jg (yv lR)] at hi;have:=hI.dis i j b hi hb;omega
  ·rw [rA (ux X)] at hi;cases hi
 refine ⟨K,fZ (fi (below n) β) n (.gr x rows.length),?_,(hF.res).mono (df.refl K) hold⟩;refine ⟨h.ext,h.kle,h.ble.trans hold,h.loc,h.fz,fun i z hi=>?_,fun i hi=>?_,fun i i' b hi hj=>?_,fun i b hi=>?_,h.kn,⟨h.tab.le,h.tab.pow,h.tab.spc,fun i b hi=>?_⟩⟩
 ·by_cases ue:i < n
  ·rw [gm X] at hi;exact zde
  ·have:i=n:=by have:=(bB hi).1;rw [aL,hlen,length_singleton] at this;omega
   subst this;rw [gR X,hlen,tZ] at hi;cases hi;refine ⟨xs,bI,o2,⟨o3.1,fun a v g I G=>(o3.2 a v g I G).pc ?_⟩,o4,o5⟩;obtain ⟨r,mw,eR⟩:=List.mem_flatten.1 (bo G);exact (o4 r mw).2 g eR
 ·rw [aL,hlen,length_singleton] at hi;rw [bU X];exact rA (ux X)
 ·by_cases I:i=n <;> by_cases G:i'=n
  ·omega
  ·subst I;rw [bI] at hi;rw [bU G] at hj;exact absurd hj (cS b (WW b hi) i')
  ·subst G;rw [bI] at hj;rw [bU I] at hi;exact absurd hi (cS b (WW b hj) i)
  ·rw [bU I] at hi;rw [bU G] at hj;exact h.dis i i' b hi hj
 ·rcases mJ hi with I | I
  ·exact hI.own j b (WW b I)
  ·exact h.own i b I
 ·rcases mJ hi with I | I
  ·exact hI.tab.free j b (WW b I)
  ·exact h.tab.free i b I
end
open Go.Sp
theorem GC.Iu {P:Program} {f:FuncId} {args:List GV} {E k n:Nat} {rows:List (List GV)} (h:GC P f args [] fun g Δ=>∃ a c,g=.v (.slice a n c)/\Δ=[.vech E k rows (.slice a n c)]):GF P f args [] (.sl k rows) []:=fun B K β w vs hm hI hF =>
 (h B K β w vs hm hI hF).mono fun v w' ⟨K',b9,g,aZ,bE,hr,a,c,hg,bH⟩=>by
  subst hg;subst bH;obtain ⟨K2,k2,r2,i2⟩:=bE.sr (i:=0) rfl;have hv:=Rel.eJ hr;refine ⟨K2,_,.sl k rows,[],i2.cut (n:=0) zhe rfl,?_,rfl,rfl⟩;rw [hv];exact r2.pc rfl
attribute [local irreducible] GW GL GO YG GC GA aU aW
end Go.Xg
namespace Go.Xg
open Go.RowKit Go.Xw Go.Proofs Go.WideShapes Go.Deep
def u8v (c:UInt8):Value:=.int .u8 (c.toNat:Int)
theorem Yt (c:UInt8):flat (u8v c):=fun a n d e=>by cases e
theorem wf_u8 {z:Int} (h:(Lit.int .u8 z).wf=true):∃ c:UInt8,z=((c.toNat:Nat):Int):=by
 simp only [Lit.wf,aK,decide_eq_true_eq] at h
 have I:IntKind.min .u8=0:=by decide
 have G:IntKind.max .u8=255:=by decide
 rw [I,G] at h;refine ⟨UInt8.ofNat z.toNat,?_⟩
 have h3:z.toNat < 256:=by omega
 have h4:(UInt8.ofNat z.toNat).toNat=z.toNat:=by simp [Nat.mod_eq_of_lt h3]
 rw [h4];omega
section
variable {H:Type} {enc:TypeId × Value->H} {P:Program} {W:World}
theorem Tb {t e:TypeId} {n:Nat} {v:Value} {y:DataW H × List MemPlace} (ht:P.underlying t=some (.slice e)) (he:P.underlying e=some (.int .u8)) (hc:P.cellsOf e=1) (h:DataW.trod enc P W 0 (fun _=>true) true n t [v]=some y) :
  ∃ l:ae,Ul W v (l.map u8v)/\l.length<=9223372036854775807:=by
 rcases open_slice1 ht hc h with ⟨jL,_⟩ | ⟨a,len,cap,m,n',aeG,aeH,Pl,jL,_,hl,hm,yQ,_,hx⟩
 ·injection jL with hv;subst hv
  exact ⟨[],⟨none,0,rfl,.inl rfl⟩,aS _⟩
 ·injection jL with hv _;subst hv
  simp only [if_true] at yQ
  obtain ⟨l,I,G⟩:=CR (n:=len) (Q:=fun i (c:UInt8)=>W.cell? (a.add i)=some (u8v c)) (fun i hi=>by
   obtain ⟨c1,c2⟩:=hx i X;obtain ⟨z,hs,_,hz⟩:=DataW.trod_int he c2
   injection hs with hs _
   rw [hs] at c1;obtain ⟨c,rfl⟩:=wf_u8 hz
   exact ⟨c,c1⟩)
  refine ⟨l,⟨some a,cap,by rw [bM,I],?_⟩,by rw [I];exact max_le (jV hl hm)⟩
  by_cases h0:len=0
  ·have:l=[]:=ig X;subst this;exact .inl rfl
  ·refine .inr ⟨a.block,a.off,?_,by rw [bM,I];exact hl,fun i x hi=>?_⟩
   ·have wT:l[0]?=some (l[0]'X):=bV _;have:=Uv (G 0 _ wT);obtain ⟨b,o,s⟩:=a;simp only at this;rw [this]
   ·rw [bp] at hi
    cases C1:l[i]? with
    | none=>rw [C1] at hi;cases hi
    | some c =>
     rw [C1] at hi;cases hi;exact ⟨UB (G i c C1),Yt c⟩
theorem BK (β:Bt) {t e:TypeId} {v:Value} {d:DataW H} {ps:List MemPlace} {r:Reach} {b0:Nat} (ht:P.underlying t=some (.slice e)) (he:P.underlying e=some (.int .u8)) (hc:P.cellsOf e=1) (hv:Value.okWide P W r b0 t v) (h:DataW.Trod enc P W 0 (fun _=>true) true t v d ps) :
  ∃ l:ae,Rel (KW W) β v (.sl 1 (bN l))/\l.length<=9223372036854775807:=by
 obtain ⟨a0,len,cap,rfl⟩:=okWide_slice ht hv;obtain ⟨fuel,hf⟩:=h;obtain ⟨l,I,G⟩:=Tb ht he hc hf;refine ⟨l,?_,G⟩;have:=Tk I β;rw [List.map_map] at this;exact this
end
end Go.Xg
