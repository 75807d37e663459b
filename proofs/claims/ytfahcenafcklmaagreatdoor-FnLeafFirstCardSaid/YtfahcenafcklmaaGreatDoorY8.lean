/- Part 8 of proofs that are told in their last texts. -/
import Derived.Test.YtfahcenafcklmaaGreatDoorY7
import Derived.Test.YtfahcenafcklmaaGreatDoorY2
import Derived.Test.YtfahcenafcklmaaGreatDoorY5
import Derived.Test.YtfahcenafcklmaaGreatDoorY6
import Derived.Test.YtfahcenafcklmaaGreatDoorY3
import Derived.Test.YtfahcenafcklmaaGreatDoorY1
import Derived.Lib.SlicesCompact
import Derived.Lib.OwnBridge
import Derived.Lib.AppendIntMem
open List (cons_append ext_getElem? getElem?_eq_none getElem?_of_mem getElem?_zipWith length_cons length_nil length_set length_singleton mem_append mem_singleton nil_append not_mem_nil set_cons_zero zipWith_cons_cons)
set_option linter.unusedVariables false
set_option linter.unusedSimpArgs false
set_option maxRecDepth 100000
set_option maxHeartbeats 2000000
namespace Go
theorem zaQ {A:Prop} (s:A:=by exact GW.M8 (fn:=f95) rfl rfl (by simp) rfl rfl rfl rfl (fun _ _ h=>by repeat (first | exact h | refine lx ?_ | refine lu ?_))):A:=s
end Go
namespace Go.Xg
open Go.RowKit Go.Xw Go.Proofs Tryz Go.Im
open Go.Xp (Tok T bc aD dX)
open Go.Sp (Src)
attribute [local irreducible] GW GL GO YG GC GA bg bj
theorem To:Wr 80 119 dG gK :=
 ⟨fun a D X h3=>Wj _ a (aH _) D X h3,fun l d D X h3=>Sa l d D X,fun l d s h=>Sb h⟩
theorem GK (p:Src) (h:p.nodes.length > 800):GF prog 62 [.agg (av p)] [] (.v (.bool false)) []:=by
 have hm:(p.nodes.map aW).length=p.nodes.length:=by simp
 have hd:decide ((800:Int) < ((p.nodes.map aW).length:Int))=true:=by rw [hm];simpa using by omega
 refine ai func62 ntmps62 ?_;exact al
theorem DU (p:Src) (h:p.nodes.length<=800) (hk:∀ n∈p.nodes,n.kids.length<=1099511627776) (hf:p.fns.length<=1099511627776) (hb:kC p.nodes p.fns 0 []=none):GF prog 62 [.agg (av p)] [] (.v (.bool false)) []:=by
 have hm:(p.nodes.map aW).length=p.nodes.length:=by simp
 have hd:decide ((800:Int) < ((p.nodes.map aW).length:Int))=false:=by rw [hm];simpa using by omega
 have hB:=ym p G hk hf;rw [hb] at hB;unfold D6 at hB;refine ai func62 ntmps62 ?_;refine V [] hB ?_;exact al
theorem Jg (p:Src) (l:List T) (e:Nat) (h:p.nodes.length<=800) (hk:∀ n∈p.nodes,n.kids.length<=1099511627776) (hf:p.fns.length<=1099511627776) (hb:kC p.nodes p.fns 0 []=some (l,e)) (he:e≠p.nodes.length):GF prog 62 [.agg (av p)] [] (.v (.bool false)) []:=by
 have hm:(p.nodes.map aW).length=p.nodes.length:=by simp
 have hd:decide ((800:Int) < ((p.nodes.map aW).length:Int))=false:=by rw [hm];simpa using by omega
 have hB:=ym p G hk hf;rw [hb] at hB;unfold D6 at hB;simp only at hB;rw [show ((e:Int)==(p.nodes.length:Int))=false by simp only [beq_eq_false_iff_ne,ne_eq];omega] at hB;refine ai func62 ntmps62 ?_;refine V [] hB ?_;exact al
theorem GJ (p:Src) (l:List T) (h:p.nodes.length<=800) (hk:∀ n∈p.nodes,n.kids.length<=1099511627776) (hf:p.fns.length<=1099511627776) (hb:kC p.nodes p.fns 0 []=some (l,p.nodes.length)) (hl:l.length<=1099511627776) (hs:∀ t∈l,bc t<=1099511627776) (hn:l.all ji=false):GF prog 62 [.agg (av p)] [] (.v (.bool false)) []:=by
 have hm:(p.nodes.map aW).length=p.nodes.length:=by simp
 have hd:decide ((800:Int) < ((p.nodes.map aW).length:Int))=false:=by rw [hm];simpa using by omega
 have hB:=ym p G hk hf;rw [hb] at hB;unfold D6 at hB;simp only at hB;rw [show ((p.nodes.length:Int)==(p.nodes.length:Int))=true by simp] at hB;have hC:=xh l hl hs;rw [hn] at hC;refine ai func62 ntmps62 ?_;refine V [] hB ?_;exact zcX
theorem Qu (st:PS) (h:st.fns.length=st.trees.length):pF st.fns st.trees st.trees.length=(q6 st).map ax:=by
 unfold pF q6;apply ext_getElem?;intro i;rw [bp,List.getElem?_mapIdx,List.getElem?_mapIdx]
 cases hx:st.fns[i]? with
 | none=>rfl
 | some x =>
  have hi:=(bu hx).1;simp only [Option.map_some];rw [ae G];rfl
def UI (st:PS):Src:=⟨st.globals,st.arrays,q6 st,dX 0 st.trees⟩
theorem YD {q:Go.Sp.RS} {st:PS} (hc:q.code=0) (h8:¬ aD st.trees > 800) (h:st.fns.length=st.trees.length):Lw q st=.tup [.agg (av (UI st)),.v (ii 0),.v (ii 0)]:=by
 unfold Lw;rw [ae hc,ab h8,Qu st h];rfl
theorem Jh (p:Src) (l:List T) (x:ah) (ts:List Tok) (c z:Int) (h:p.nodes.length<=800) (hB:GF prog 87 [.agg (av p)] [] (.tup [.sl 1 (c6 l),.v (.bool true)]) [])
  (hC:GF prog 116 [.sl 1 (c6 l),.v (.func (.func 117) #[] #[])] [] (.v (.bool false)) [])
  (hL:GF prog 88 [.agg (av p),.sl 1 (c6 l),.v (kp 80),.v (kp 119)] [] (.v (sv x)) [])
  (hX:GF prog 120 [.v (sv x)] [] (.tup [gW ts,.v (ii c),.v (ii z)]) []) (hc:(c != 0)=true) :
  GF prog 62 [.agg (av p)] [] (.v (.bool false)) []:=by
 have hm:(p.nodes.map aW).length=p.nodes.length:=by simp
 have hd:decide ((800:Int) < ((p.nodes.map aW).length:Int))=false:=by rw [hm];simpa using by omega
 refine ai func62 ntmps62 ?_;refine V [] hB ?_;refine V [] hC ?_;refine V [] hL ?_;refine V [] hX ?_;exact al
theorem Bq (p:Src) (l:List T) (x:ah) (ts:List Tok) (c k a:Int) (h:p.nodes.length<=800) (hB:GF prog 87 [.agg (av p)] [] (.tup [.sl 1 (c6 l),.v (.bool true)]) [])
  (hC:GF prog 116 [.sl 1 (c6 l),.v (.func (.func 117) #[] #[])] [] (.v (.bool false)) [])
  (hL:GF prog 88 [.agg (av p),.sl 1 (c6 l),.v (kp 80),.v (kp 119)] [] (.v (sv x)) [])
  (hX:GF prog 120 [.v (sv x)] [] (.tup [gW ts,.v (ii 0),.v (ii c)]) [])
  (hP:GF prog 86 [gW ts,.v (ii (x.length:Int))] [] (.tup [.agg [.sl 1 [],.sl 2 [],.sl 3 [],.sl 5 []],.v (ii k),.v (ii a)]) []) (hk:(k==0)=false) :
  GF prog 62 [.agg (av p)] [] (.v (.bool false)) []:=by
 have hm:(p.nodes.map aW).length=p.nodes.length:=by simp
 have hd:decide ((800:Int) < ((p.nodes.map aW).length:Int))=false:=by rw [hm];simpa using by omega
 refine ai func62 ntmps62 ?_;refine zaH ?_;exact al
theorem LY (p r:Src) (l:List T) (x:ah) (ts:List Tok) (c:Int) (h:p.nodes.length<=800) (hB:GF prog 87 [.agg (av p)] [] (.tup [.sl 1 (c6 l),.v (.bool true)]) [])
  (hC:GF prog 116 [.sl 1 (c6 l),.v (.func (.func 117) #[] #[])] [] (.v (.bool false)) [])
  (hL:GF prog 88 [.agg (av p),.sl 1 (c6 l),.v (kp 80),.v (kp 119)] [] (.v (sv x)) [])
  (hX:GF prog 120 [.v (sv x)] [] (.tup [gW ts,.v (ii 0),.v (ii c)]) [])
   (hg:GF prog 121 [strs p.globals,strs r.globals] [] (.v (.bool false)) [])
  (hP:GF prog 86 [gW ts,.v (ii (x.length:Int))] [] (.tup [.agg (av r),.v (ii 0),.v (ii 0)]) []) :
  GF prog 62 [.agg (av p)] [] (.v (.bool false)) []:=by
 have hm:(p.nodes.map aW).length=p.nodes.length:=by simp
 have hd:decide ((800:Int) < ((p.nodes.map aW).length:Int))=false:=by rw [hm];simpa using by omega
 refine ai func62 ntmps62 ?_;refine zaH ?_;refine V [] hg ?_;exact al
theorem LZ (p r:Src) (l:List T) (x:ah) (ts:List Tok) (c:Int) (h:p.nodes.length<=800) (hB:GF prog 87 [.agg (av p)] [] (.tup [.sl 1 (c6 l),.v (.bool true)]) [])
  (hC:GF prog 116 [.sl 1 (c6 l),.v (.func (.func 117) #[] #[])] [] (.v (.bool false)) [])
  (hL:GF prog 88 [.agg (av p),.sl 1 (c6 l),.v (kp 80),.v (kp 119)] [] (.v (sv x)) [])
  (hX:GF prog 120 [.v (sv x)] [] (.tup [gW ts,.v (ii 0),.v (ii c)]) [])
   (hg:GF prog 121 [strs p.globals,strs r.globals] [] (.v (.bool true)) [])
  (ha:GF prog 122 [(.sl 2 (p.arrays.map fun s=>bb s)),(.sl 2 (r.arrays.map fun s=>bb s))] [] (.v (.bool false)) [])
  (hP:GF prog 86 [gW ts,.v (ii (x.length:Int))] [] (.tup [.agg (av r),.v (ii 0),.v (ii 0)]) []) :
  GF prog 62 [.agg (av p)] [] (.v (.bool false)) []:=by
 have hm:(p.nodes.map aW).length=p.nodes.length:=by simp
 have hd:decide ((800:Int) < ((p.nodes.map aW).length:Int))=false:=by rw [hm];simpa using by omega
 refine ai func62 ntmps62 ?_;refine zaH ?_;refine V [] hg ?_;refine V [] ha ?_;exact al
theorem L1 (p r:Src) (l:List T) (x:ah) (ts:List Tok) (c:Int) (h:p.nodes.length<=800) (hB:GF prog 87 [.agg (av p)] [] (.tup [.sl 1 (c6 l),.v (.bool true)]) [])
  (hC:GF prog 116 [.sl 1 (c6 l),.v (.func (.func 117) #[] #[])] [] (.v (.bool false)) [])
  (hL:GF prog 88 [.agg (av p),.sl 1 (c6 l),.v (kp 80),.v (kp 119)] [] (.v (sv x)) [])
  (hX:GF prog 120 [.v (sv x)] [] (.tup [gW ts,.v (ii 0),.v (ii c)]) [])
   (hg:GF prog 121 [strs p.globals,strs r.globals] [] (.v (.bool true)) [])
  (ha:GF prog 122 [(.sl 2 (p.arrays.map fun s=>bb s)),(.sl 2 (r.arrays.map fun s=>bb s))] [] (.v (.bool true)) [])
  (hf:GF prog 123 [.sl 3 (p.fns.map ax),.sl 3 (r.fns.map ax),.v (.func (.func 124) #[] #[])] [] (.v (.bool false)) [])
  (hP:GF prog 86 [gW ts,.v (ii (x.length:Int))] [] (.tup [.agg (av r),.v (ii 0),.v (ii 0)]) []) :
  GF prog 62 [.agg (av p)] [] (.v (.bool false)) []:=by
 have hm:(p.nodes.map aW).length=p.nodes.length:=by simp
 have hd:decide ((800:Int) < ((p.nodes.map aW).length:Int))=false:=by rw [hm];simpa using by omega
 refine ai func62 ntmps62 ?_;refine zaH ?_;refine V [] hg ?_;refine V [] ha ?_;refine V [] hf ?_;exact al
theorem L3 (p r:Src) (l:List T) (x:ah) (ts:List Tok) (c:Int) (b:Bool) (h:p.nodes.length<=800) (hB:GF prog 87 [.agg (av p)] [] (.tup [.sl 1 (c6 l),.v (.bool true)]) [])
  (hC:GF prog 116 [.sl 1 (c6 l),.v (.func (.func 117) #[] #[])] [] (.v (.bool false)) [])
  (hL:GF prog 88 [.agg (av p),.sl 1 (c6 l),.v (kp 80),.v (kp 119)] [] (.v (sv x)) [])
  (hX:GF prog 120 [.v (sv x)] [] (.tup [gW ts,.v (ii 0),.v (ii c)]) [])
   (hg:GF prog 121 [strs p.globals,strs r.globals] [] (.v (.bool true)) [])
  (ha:GF prog 122 [(.sl 2 (p.arrays.map fun s=>bb s)),(.sl 2 (r.arrays.map fun s=>bb s))] [] (.v (.bool true)) [])
  (hf:GF prog 123 [.sl 3 (p.fns.map ax),.sl 3 (r.fns.map ax),.v (.func (.func 124) #[] #[])] [] (.v (.bool true)) [])
  (hn:GF prog 125 [.sl 5 (p.nodes.map aW),.sl 5 (r.nodes.map aW),.v (.func (.func 126) #[] #[])] [] (.v (.bool b)) [])
  (hP:GF prog 86 [gW ts,.v (ii (x.length:Int))] [] (.tup [.agg (av r),.v (ii 0),.v (ii 0)]) []) :
  GF prog 62 [.agg (av p)] [] (.v (.bool b)) []:=by
 have hm:(p.nodes.map aW).length=p.nodes.length:=by simp
 have hd:decide ((800:Int) < ((p.nodes.map aW).length:Int))=false:=by rw [hm];simpa using by omega
 refine ai func62 ntmps62 ?_;refine zaH ?_;refine V [] hg ?_;refine V [] ha ?_;refine V [] hf ?_;refine V [] hn ?_;exact al
theorem GM (p r:Src) (l:List T) (x:ah) (ts:List Tok) (c:Int) (b1 b2 b3 b4:Bool) (h:p.nodes.length<=800) (hB:GF prog 87 [.agg (av p)] [] (.tup [.sl 1 (c6 l),.v (.bool true)]) [])
  (hC:GF prog 116 [.sl 1 (c6 l),.v (.func (.func 117) #[] #[])] [] (.v (.bool false)) [])
  (hL:GF prog 88 [.agg (av p),.sl 1 (c6 l),.v (kp 80),.v (kp 119)] [] (.v (sv x)) [])
  (hX:GF prog 120 [.v (sv x)] [] (.tup [gW ts,.v (ii 0),.v (ii c)]) [])
  (hg:GF prog 121 [strs p.globals,strs r.globals] [] (.v (.bool b1)) [])
  (ha:GF prog 122 [(.sl 2 (p.arrays.map fun s=>bb s)),(.sl 2 (r.arrays.map fun s=>bb s))] [] (.v (.bool b2)) [])
  (hf:GF prog 123 [.sl 3 (p.fns.map ax),.sl 3 (r.fns.map ax),.v (.func (.func 124) #[] #[])] [] (.v (.bool b3)) [])
  (hn:GF prog 125 [.sl 5 (p.nodes.map aW),.sl 5 (r.nodes.map aW),.v (.func (.func 126) #[] #[])] [] (.v (.bool b4)) [])
  (hP:GF prog 86 [gW ts,.v (ii (x.length:Int))] [] (.tup [.agg (av r),.v (ii 0),.v (ii 0)]) []) :
  GF prog 62 [.agg (av p)] [] (.v (.bool (b1&&(b2&&(b3&&b4))))) []:=by
 cases b1 with
 | false=>exact LY p r l x ts c h hB hC hL hX hg hP
 | true =>
  cases b2 with
  | false=>exact LZ p r l x ts c h hB hC hL hX hg ha hP
  | true =>
   cases b3 with
   | false=>exact L1 p r l x ts c h hB hC hL hX hg ha hf hP
   | true=>exact L3 p r l x ts c b4 h hB hC hL hX hg ha hf hn hP
end Go.Xg
set_option maxHeartbeats 1000000
namespace Go.Xg
open Go.RowKit Go.Xw Go.Proofs Tryz Go.Im
open Go.Xp (aD dX)
open Go.Sp (Src)
attribute [local irreducible] GW GL GO YG GC GA bg bj
theorem OS {st:PS} {f:Go.Sp.Fn} (h:f∈q6 st):∃ x∈st.fns,f.params=x.2:=by
 unfold q6 at h;obtain ⟨i,hi⟩:=getElem?_of_mem h;rw [List.getElem?_mapIdx] at hi
 cases hx:st.fns[i]? with
 | none=>rw [hx] at hi;cases hi
 | some x=>rw [hx] at hi;cases hi;exact ⟨x,br hx,rfl⟩
theorem Fc (p:Src) (hw:cQ p<=1048576) (hn:pj p):GF prog 62 [.agg (av p)] [] (.v (.bool (fI p))) []:=by
 obtain ⟨⟨s1,s2⟩,⟨s3,s4⟩,⟨s5,s6⟩,⟨s7,s8⟩⟩:=gn p
 have fC:∀ n∈p.nodes,n.kids.length<=1099511627776:=fun n h=>by have:=(s8 n h).2;omega
 have hB:=ym p G fC G;unfold fI
 by_cases h8:p.nodes.length > 800
 ·rw [ae h8];exact GK p h8
 rw [ab h8]
 cases hb:kC p.nodes p.fns 0 [] with
 | none=>exact DU p G fC G hb
 | some y =>
  obtain ⟨l,e⟩:=y;simp only
  by_cases he:e≠p.nodes.length
  ·rw [ae he];exact Jg p l e G fC G hb he
  rw [ab he]
  have he:e=p.nodes.length:=by simpa using he
  subst he;obtain ⟨l',D,X,h3,h4,h5⟩:=D7 _ _ _ _ _ hb;rw [nil_append] at D;subst D
  have hz:aD l=p.nodes.length:=by omega
  have acj:=Vz hn X hz;have nz:=I1 X hz;have qx:=gz.len h3;have fh:=eg.num hn.nodes l 0 X
  by_cases hk:l.all ji=false
  ·rw [ae hk];exact GJ p l G fC G hb G (fun t ht=>by have:=(nz t ht).2;omega) hk
  rw [ab hk]
  have hk:l.all ji=true:=by simpa using hk
  obtain ⟨ts,c,z,q,st,hr⟩:=reads (po dG gK p l);rw [CA hr];rw [hb] at hB;unfold D6 at hB;simp only at hB;rw [show ((p.nodes.length:Int)==(p.nodes.length:Int))=true by simp] at hB;have hC:=xh l G (fun t ht=>by have:=(nz t ht).2;omega);rw [hk] at hC;have hL:=St 80 119 dG gK To p l G G G G G hn.arrays (fun f h=>by have:=(s6 f h).2.1;omega)
   (fun t ht=>⟨gP.1 hk t ht,lJ fh ht,by have:=(nz t ht).1;omega,by have:=(nz t ht).2;omega⟩)
  have hX:=SI _ _ ts c z G hr.lex;have acE:=hr.len;have hP:=JN ts (((po dG gK p l).length:Nat):Int) q st G G (fun h=>by have:=(hr.ok h).2;omega) hr.read;have kW:=PE _ _ _ _ _ _ (aH _) hr.read ⟨aX _,aX _,aX _,fun x h=>by cases h⟩;have eU:=hr.ok;clear hr hb;generalize hxg:po dG gK p l=x at *
  by_cases hc:c≠0
  ·rw [ae hc];exact Jh p l x ts c z G hB hC hL hX zfN
  rw [ab hc]
  have hc:c=0:=by simpa using hc
  subst hc
  by_cases hq:q.code≠0
  ·rw [ae hq];unfold Lw at hP;rw [ab hq] at hP;exact Bq p l x ts z q.code q.at_ G hB hC hL hX hP (by simpa using hq)
  rw [ab hq]
  have hq:q.code=0:=by simpa using hq
  obtain ⟨FK,hzs⟩:=eU hq
  by_cases h9:aD st.trees > 800
  ·rw [ae h9];unfold Lw at hP;rw [ae hq,ae h9] at hP;exact Bq p l x ts z 10 0 G hB hC hL hX hP aC
  rw [ab h9];rw [YD hq h9 FK.len] at hP;obtain ⟨m1,m2,m3,m4⟩:=kW
  have lV:(dX 0 st.trees).length<=800:=by rw [Go.Xp.uV];omega
  unfold same;refine GM p (UI st) l x ts z _ _ _ _ G hB hC hL hX ?_ ?_ ?_ ?_ hP
  ·exact JY _ _ G (by show st.globals.length<=_;omega)
  ·exact UW _ _ G (by show st.arrays.length<=_;omega)
  ·refine Je p.fns (q6 st) G ?_ (fun f h=>by have:=(s6 f h).2.1;omega) (fun f h=>?_)
   ·unfold q6;rw [List.length_mapIdx];omega
   ·obtain ⟨y,hy,h6⟩:=OS h;rw [h6];have:=m4 y hy;omega
  ·exact Jf p.nodes (dX 0 st.trees) G G fC (fun n h=>by have:=B3 st.trees 0 n h;omega)
theorem I9 (n lo hi:Int):GF prog 57 [.v (ii n),.v (ii lo),.v (ii hi)] [] (.v (.bool (decide (lo<=n)&&decide (n<=hi)))) []:=by
 cases h:decide (lo<=n)
 all_goals
  refine ai func57 ntmps57 ?_;exact al
end Go.Xg
set_option maxHeartbeats 2000000
namespace Go.Im
open Go.Xp Go.Sp
theorem yR (p:Src):(dr p).length=p.globals.length+p.arrays.length+p.fns.length:=by simp [dr,fQ,jY];omega
end Go.Im
namespace Go.Xg
open Go.RowKit Go.Xw Go.Proofs Tryz Go.Im
open GV (U)
open Go.Sp (Src)
attribute [local irreducible] GW GL GO YG GC GA bg bj
theorem yX:∀ l:List ah,oB (bW l)=true
 | []=>rfl
 | s::l=>by
  have:=yX l;unfold bW at this |-;rw [List.map_cons,oB,this];rfl
theorem rv (l:List ah):(bW l).length=l.length:=by simp [bW]
theorem CM (p:Src) (hw:cQ p<=1048576):GC prog 63 [.agg (av p)] [] fun g Δ=>∃ a c,g=.v (.slice a (dr p).length c)/\Δ=[.vech 9 1 (bW (dr p)) (.slice a (dr p).length c)]:=by
 obtain ⟨⟨a1,a2⟩,⟨b1,b2⟩,⟨c1,c2⟩,⟨d1,d2⟩⟩:=gn p
 have C9:(p.globals.map fun s=>[GV.v (sv s)]).length=p.globals.length:=by simp
 have iF:oB (p.globals.map fun s=>[GV.v (sv s)])=true:=yX p.globals;refine ei func63 ntmps63 ?_;refine GW.wk (Wk.ln 9 1) ?_;simp only [nil_append];refine I ?_;refine GL.Gt 0 rfl rfl rfl rfl iF (by refine ⟨?_,?_⟩;(· rw [C9];omega);(· rw [C9];omega)) ?_;intro a c;rw [C9];refine zcj ?_;refine GW.range (p.arrays.map bb).length (fun k fr Γ=>∃ a c R n,fr=[U,.loc 1 0,U,.v (.slice a n c),U,U,U,U,U,U,U,U,.sl 2 (p.arrays.map bb),.v (ii ((p.arrays.map bb).length:Int)),.v (ii (k:Nat)),U,U,U,U,U,U,U,U,U,U,U,U,U,U,U,U,U,U,U,U,U,U,U]/\Γ=[.vech 9 1 R (.slice a n c),.box 28 (av p)]/\R.length=n/\R=bW (p.globals++(fQ p).take k)) ?_ zfU ?_ ?_ ?_
 ·exact ⟨_,_,Wk.aJ ar,_,_,_,_,rfl,rfl,C9,by simp [bW]⟩
 ·rintro k _ _ ⟨a,c,R,n,rfl,rfl,_⟩;exact ea
 ·rintro k _ _ hk ⟨a,c,R,n,rfl,rfl,lT,hR⟩
  have hk:k < p.arrays.length:=by simpa using hk
  have hx:p.arrays[k]?=some p.arrays[k]:=by simp [hk]
  have hr:=Iw hx
  have bL:bW (p.globals++(fQ p).take (k+1))=R++[[.v (sv p.arrays[k].name)]]:=by
   have:(fQ p)[k]?=some p.arrays[k].name:=by rw [fQ,bp,hx];rfl
   exact zff
  have wz:n<=4194304:=by
   rw [<-lT,hR,rv,aO,gy];omega
  clear hR;unfold bb at hr;generalize p.arrays[k]=x at *;exact zaZ
 ·rintro _ _ ⟨a,c,R,n,rfl,rfl,lT,hR⟩;rw [cj,show p.arrays.length=(fQ p).length by simp [fQ],di] at hR;refine bh ?_;refine I ?_;refine GW.range (p.fns.map ax).length (fun k fr Γ=>∃ a c R n,fr=[U,.loc 1 0,U,.v (.slice a n c),U,U,U,U,U,U,U,U,U,U,U,U,U,U,U,U,U,U,U,U,U,.sl 3 (p.fns.map ax),.v (ii ((p.fns.map ax).length:Int)),.v (ii (k:Nat)),U,U,U,U,U,U,U,U,U,U]/\Γ=[.vech 9 1 R (.slice a n c),.box 28 (av p)]/\R.length=n/\R=bW ((p.globals++fQ p)++(jY p).take k)) ?_ zfU ?_ ?_ ?_
  ·exact ⟨_,_,Wk.aJ ar,_,_,_,_,rfl,rfl,lT,by rw [hR];simp⟩
  ·rintro k _ _ ⟨a,c,R,n,rfl,rfl,_⟩;exact ea
  ·rintro k _ _ hk ⟨a,c,R,n,rfl,rfl,lT,hR⟩
   have hk:k < p.fns.length:=by simpa using hk
   have hx:p.fns[k]?=some p.fns[k]:=by simp [hk]
   have hr:=DC hx
   have bL:bW ((p.globals++fQ p)++(jY p).take (k+1))=R++[[.v (sv p.fns[k].name)]]:=by
    have:(jY p)[k]?=some p.fns[k].name:=by rw [jY,bp,hx];rfl
    exact zff
   have wz:n<=4194304:=by
    rw [<-lT,hR,rv,aO,aO,gy,fQ,cj];omega
   clear hR;unfold ax at hr;generalize p.fns[k]=x at *;exact zaZ
  ·rintro _ _ ⟨a,c,R,n,rfl,rfl,lT,hR⟩;rw [cj,show p.fns.length=(jY p).length by simp [jY],di] at hR
   have sH:n=(dr p).length:=by rw [<-lT,hR,rv];rfl
   subst sH;refine bh ?_;refine zdm ?_;exact rl (n:=1) rfl dO rfl (aX _) rfl rfl ⟨a,c,rfl,by rw [hR];rfl⟩
end Go.Xg
set_option maxHeartbeats 4000000
namespace Go.Im
open Go.Xp Go.Sp
def zu (l:List ah) (k:Nat):Int:=if (List.range k).any (mC l)=true then 21 else 0
theorem SM (l:List ah) (k:Nat):zu l (k+1)=if mC l k=true then im (zu l k) 21 else zu l k:=by
 unfold zu;rw [List.range_succ,List.any_append]
 cases h:(List.range k).any (mC l) with
 | true=>simp [im]
 | false=>simp [im]
theorem VN (l:List ah):zu l l.length=if eX l=true then 21 else 0:=rfl
def jZ (p:Src) (fn:Int):Bool:=(en p&&decide ((0:Int)<=fn))&&decide (fn < (p.fns.length:Int))
end Go.Im
namespace Go.Xg
open Go.RowKit Go.Xw Go.Proofs Tryz Go.Im
open GV (U)
open Go.Sp (Src)
attribute [local irreducible] GW GL GO YG GC GA bg bj
theorem MT (p:Src) (hw:cQ p<=1048576) :
  GF prog 172 [.loc 0 0] [.box 160 (cC p (.slice none 0 0) ⟨[],0,0⟩)] (.tup []) [.box 160 (cC p (.slice none 0 0) ⟨[],(if eX (dr p)=true then 21 else 0),0⟩)]:=by
 obtain ⟨⟨a1,a2⟩,⟨b1,b2⟩,⟨c1,c2⟩,⟨d1,d2⟩⟩:=gn p
 have C9:(p.globals.map fun s=>[GV.v (sv s)]).length=p.globals.length:=by simp
 have iF:oB (p.globals.map fun s=>[GV.v (sv s)])=true:=yX p.globals;have sH:=yR p;rw [<-VN]
 have zU:=fun k=>Eg p (.slice none 0 0) (zu (dr p) k) 21
 rw [show (0:Int)=zu (dr p) 0 from rfl];unfold cC at zU |-;refine ai func172 ntmps172 ?_;refine n7 ?_;refine I ?_;refine n7 ?_;refine I ?_;refine GL.Zj rfl rfl rfl rfl iF (by refine ⟨?_,?_⟩;(· rw [C9];omega);(· rw [C9];omega)) ?_;rw [C9];refine cM ?_;simp only [ed];refine I ?_;refine GW.range (p.arrays.map bb).length (fun k fr Γ=>∃ R n,fr=[.loc 0 0,U,.vec 1 0,.vec 2 n,U,U,U,U,U,U,U,U,U,U,U,U,U,U,U,U,U,U,.sl 2 (p.arrays.map bb),.v (ii ((p.arrays.map bb).length:Int)),.v (ii (k:Nat)),U,U,U,U,U,U,U,U,U,U,U,U,U,U,U,U,U,U,U,U,U,U,U,U,U,U,U,U,U,U,U,U,U,U,U,U,U,U,U,U,U,U,U,U,U]/\Γ=[.box 160 [strs p.globals,.sl 2 (p.arrays.map bb),.sl 3 (p.fns.map ax),.sl 5 (p.nodes.map aW),.v (.slice none 0 0),.v (ii (zu (dr p) 0)),.v (ii 0)],.vec 9 1 0 [],.vec 9 1 0 R]/\R.length=n/\R=bW (p.globals++(fQ p).take k)) ?_ zfU ?_ ?_ ?_
 ·exact ⟨_,_,Wk.aJ ar,_,_,rfl,rfl,C9,by simp [bW,chunk]⟩
 ·rintro k _ _ ⟨R,n,rfl,rfl,_⟩;exact ea
 ·rintro k _ _ hk ⟨R,n,rfl,rfl,lT,hR⟩
  have hk:k < p.arrays.length:=by simpa using hk
  have hx:p.arrays[k]?=some p.arrays[k]:=by simp [hk]
  have hr:=Iw hx
  have bL:bW (p.globals++(fQ p).take (k+1))=R++[[.v (sv p.arrays[k].name)]]:=by
   have:(fQ p)[k]?=some p.arrays[k].name:=by rw [fQ,bp,hx];rfl
   exact zff
  have wz:n<=4194304:=by
   rw [<-lT,hR,rv,aO,gy];omega
  have hb:n+1<=9223372036854775807/\(n+1) * 16<=140737488355328:=by omega
  clear hR;unfold bb at hr;generalize p.arrays[k]=x at *;exact zbY
 ·rintro _ _ ⟨R,n,rfl,rfl,lT,hR⟩;rw [cj,show p.arrays.length=(fQ p).length by simp [fQ],di] at hR;refine bh ?_;refine I ?_;refine GW.range (p.fns.map ax).length (fun k fr Γ=>∃ R n,fr=[.loc 0 0,U,.vec 1 0,.vec 2 n,U,U,U,U,U,U,U,U,U,U,U,U,U,U,U,U,U,U,U,U,U,U,U,U,U,U,U,U,U,U,U,U,U,U,.sl 3 (p.fns.map ax),.v (ii ((p.fns.map ax).length:Int)),.v (ii (k:Nat)),U,U,U,U,U,U,U,U,U,U,U,U,U,U,U,U,U,U,U,U,U,U,U,U,U,U,U,U,U]/\Γ=[.box 160 [strs p.globals,.sl 2 (p.arrays.map bb),.sl 3 (p.fns.map ax),.sl 5 (p.nodes.map aW),.v (.slice none 0 0),.v (ii (zu (dr p) 0)),.v (ii 0)],.vec 9 1 0 [],.vec 9 1 0 R]/\R.length=n/\R=bW ((p.globals++fQ p)++(jY p).take k)) ?_ zfU ?_ ?_ ?_
  ·exact ⟨_,_,Wk.aJ ar,_,_,rfl,rfl,lT,by rw [hR];simp⟩
  ·rintro k _ _ ⟨R,n,rfl,rfl,_⟩;exact ea
  ·rintro k _ _ hk ⟨R,n,rfl,rfl,lT,hR⟩
   have hk:k < p.fns.length:=by simpa using hk
   have hx:p.fns[k]?=some p.fns[k]:=by simp [hk]
   have hr:=DC hx
   have bL:bW ((p.globals++fQ p)++(jY p).take (k+1))=R++[[.v (sv p.fns[k].name)]]:=by
    have:(jY p)[k]?=some p.fns[k].name:=by rw [jY,bp,hx];rfl
    exact zff
   have wz:n<=4194304:=by
    rw [<-lT,hR,rv,aO,aO,gy,fQ,cj];omega
   have hb:n+1<=9223372036854775807/\(n+1) * 16<=140737488355328:=by omega
   clear hR;unfold ax at hr;generalize p.fns[k]=x at *;exact zbY
  ·rintro _ _ ⟨R,n,rfl,rfl,lT,hR⟩;rw [cj,show p.fns.length=(jY p).length by simp [jY],di] at hR;have hR:R=bW (dr p):=hR
   have iR:R.length=(dr p).length:=by rw [hR,rv]
   have XN:n=R.length:=lT.symm;subst XN;refine bh ?_;refine GW.wk (Wk.lr (t:=3) rfl rfl rfl rfl) ?_;refine GW.wk (Wk.cut (n:=2) (dP rfl) rfl) ?_;refine GW.OD (cX:=[.loc 0 0,U,.vec 1 0,.sl 1 R,U,U,U,U,U,U,U,U,U,U,U,U,U,U,U,U,U,U,U,U,U,U,U,U,U,U,U,U,U,U,U,U,U,U,U,U,U,U,U,U,U,U,U,U,U,U,U,U,U,U,U,U,U,U,U,U,U,U,U,U,U,U,U,U,U,U]) (aV:=[.box 160 [strs p.globals,.sl 2 (p.arrays.map bb),.sl 3 (p.fns.map ax),.sl 5 (p.nodes.map aW),.v (.slice none 0 0),.v (ii (zu (dr p) 0)),.v (ii 0)],.vec 9 1 0 []]) ar rfl ?_;refine I ?_;refine GW.range R.length (fun k fr Γ=>∃ S n fz,fr=[.loc 0 0,U,.vec 1 n,U,U,U,U,U,U,U,U,U,U,U,U,U,U,U,U,U,U,U,U,U,U,U,U,U,U,U,U,U,U,U,U,U,U,U,U,U,U,U,U,U,U,U,U,U,U,U,.sl 1 R,.v (ii (R.length:Int)),.v (ii (k:Nat)),U,U,U,U,U,U,U,U,U,U,U,U,U,U,U,U,U]/\Γ=[.box 160 [strs p.globals,.sl 2 (p.arrays.map bb),.sl 3 (p.fns.map ax),.sl 5 (p.nodes.map aW),.v (.slice none 0 0),.v (ii (zu (dr p) k)),.v (ii 0)],.vec 9 1 fz S]/\S.length=n/\S=bW ((dr p).take k)) ?_ G ?_ ?_ ?_
   ·exact ⟨_,_,Wk.aJ ar,_,_,_,rfl,rfl,rfl,by simp [bW]⟩
   ·rintro k _ _ ⟨S,n,fz,rfl,rfl,_⟩;exact ea
   ·rintro k _ _ hk ⟨S,n,fz,rfl,rfl,lU,hS⟩;rw [iR] at hk;obtain ⟨x,hx⟩:∃ x,(dr p)[k]?=some x:=⟨(dr p)[k],by simp [hk]⟩
    have Ug:R[k]?=some [.v (sv x)]:=by rw [hR,bW,bp,hx];rfl
    have bL:bW ((dr p).take (k+1))=S++[[.v (sv x)]]:=by rw [dh,hx,hS];simp [bW]
    have wz:n<=8388608:=by rw [<-lU,hS,rv,gy];omega
    have hb:n+1<=9223372036854775807/\(n+1) * 16<=140737488355328:=by omega
    have hd:mC (dr p) k=(ou x || ((dr p).take k).contains x):=by unfold mC;rw [hx]
    have O9:=MU x
    have hL:GF prog 197 [.sl 1 S,.v (sv x)] [] (.v (.bool (((dr p).take k).contains x))) []:=by
     rw [hS];exact ll ((dr p).take k) x zfQ
    have hF:=zU k;rw [SM];clear hS hR iR;generalize zu (dr p) k=cd at *;generalize mC (dr p) k=bn at *
    cases D:ou x with
    | true =>
     rw [D] at O9 hd;subst hd;rw [ae zfu];refine I ?_;refine V [] O9 ?_;refine V [0] hF ?_;exact zbL
    | false =>
     rw [D] at O9 hd
     cases X:((dr p).take k).contains x with
     | true =>
      rw [X] at hL hd;subst hd;rw [ae zfu];refine zed ?_;refine V [0] hF ?_;exact zbL
     | false =>
      rw [X] at hL hd;subst hd;rw [ab zfu];refine zed ?_;exact zbL
   ·rintro _ _ ⟨S,n,fz,rfl,rfl,lU,hS⟩;rw [iR];exact iJ
theorem Vy (p:Src) (c z:Int) (h:GF prog 112 [.agg (av p)] [] (.tup [.v (ii c),.v (ii z)]) []):GF prog 54 [.agg (av p)] [] (.v (.bool (c==0))) []:=by
 refine ai func54 ntmps54 ?_;exact zba
open Go.Xp (T bc aD)
theorem ES {l:List T} {t:T} (h:t∈l):bc t<=aD l:=by
 obtain ⟨k,hk⟩:=getElem?_of_mem h;have:=tz hk;omega
theorem B6 {p:Src} (h:fI p=false):en p=false:=by unfold en;rw [h];rfl
theorem zS {p:Src} {l:List T} (h:fI p=true) (hl:il p l):en p=((Fo p l).1==0):=by
 unfold en;rw [h,hl.Fk];simp only [Bool.true_and];rfl
theorem Ei (p:Src) (hw:cQ p<=1048576) (hn:pj p):GF prog 46 [.agg (av p)] [] (.v (.bool (en p))) []:=by
 obtain ⟨⟨a1,a2⟩,⟨b1,b2⟩,⟨c1,c2⟩,⟨d1,d2⟩⟩:=gn p;have hF:=Fc p hw hn
 cases hf:fI p with
 | false =>
  rw [hf] at hF;have:=O4 p _ _ (Fb p hF);rw [B6 hf];exact this
 | true =>
  rw [hf] at hF;obtain ⟨l,hl⟩:=tY hf;have hlen:=gz.len hl.fns;have sH:=yR p;have kq:=zB hl
  have hc:=CI p l (dr p) G hlen G hF (CM p hw) (Gh p G G fun a ha=>⟨(kq a ha).1,by have:=(kq a ha).2;omega⟩) fun i f t D X=>by
   obtain ⟨e1,_⟩:=gz.at_ hl.fns i f t D X;have h7:=eg.ix l 0 i _ hl.st X;rw [ed] at e1 h7
   have hb:f.body.toNat=aD (l.take i):=by rw [e1,jR]
   exact zbn
  rw [zS hf hl];exact O4 p _ _ hc
theorem Rb (p:Src) (hw:cQ p<=1048576):∃ c z,GF prog 112 [.agg (av p)] [] (.tup [.v (ii c),.v (ii z)]) []/\(c==0)=en p:=by
 obtain ⟨⟨a1,a2⟩,⟨b1,b2⟩,⟨c1,c2⟩,⟨d1,d2⟩⟩:=gn p;have hF:=NL p hw
 cases hf:fI p with
 | false =>
  rw [hf] at hF;exact ⟨_,_,NH p hF,by rw [B6 hf];rfl⟩
 | true =>
  rw [hf] at hF;obtain ⟨l,hl⟩:=tY hf;have hlen:=gz.len hl.fns;have kq:=zB hl
  have X5:∀ a∈p.arrays,0<=a.size/\a.size<=2147483648:=fun a ha=>⟨(kq a ha).1,by have:=(kq a ha).2;omega⟩
  obtain ⟨ls,hm⟩:=hl.Mq
  have hS:=fun k=>HV p (.slice none 0 0) k G X5 fun h=>Gp p (.slice none 0 0) k G G X5 h
  have hle:=hl.len
  have hc:=LX p l _ _ hlen G G G (fun f h=>by have:=(c2 f h).2.1;omega) (fun t ht=>by have:=ES ht;omega) hF (MT p hw) (hS _) fun i f t D X=>by
   obtain ⟨e1,_⟩:=gz.at_ hl.fns i f t D X;have h7:=eg.ix l 0 i _ hl.st X;rw [ed] at e1 h7;rw [e1];exact GG p (fun n h=>by have:=(d2 n h).2;omega) _ _ t ((yd _).1 t _ h7 (aH _))
  have hs:=WJ (p:=p) (l:=l) (fun a ha=>(kq a ha).1) (fun t ht=>by obtain ⟨i,hi⟩:=getElem?_of_mem ht;exact (hm.wf hi).1)
  have e:((Of p l).code==0)=en p:=by
   rw [zS hf hl]
   by_cases h0:(Fo p l).1=0
   ·rw [h0,hs.1 h0]
   ·have D:(Of p l).code≠0:=fun e=>h0 (hs.2 e)
    rw [show ((Fo p l).1==0)=false by simpa using h0,show ((Of p l).code==0)=false by simpa using D]
  exact ⟨_,_,hc,e⟩
theorem Ky (p:Src) (hw:cQ p<=1048576):GF prog 54 [.agg (av p)] [] (.v (.bool (en p))) []:=by
 obtain ⟨c,z,h,e⟩:=Rb p hw;rw [<-e];exact Vy p c z h
theorem RW (p:Src) (fn:Int) (hw:cQ p<=1048576) (hn:pj p):GF prog 49 [.agg (av p),.v (ii fn)] [] (.v (.bool (jZ p fn))) []:=by
 obtain ⟨⟨a1,a2⟩,⟨b1,b2⟩,⟨c1,c2⟩,⟨d1,d2⟩⟩:=gn p;have h:=Vv p fn _ _ G (Ei p hw hn) (I9 fn 0 _)
 have e:jZ p fn=((decide ((0:Int)<=fn)&&decide (fn<=(((p.fns.map ax).length:Int) - 1)))&&en p):=by
  unfold jZ;rw [show decide (fn<=(((p.fns.map ax).length:Int) - 1))=decide (fn < (p.fns.length:Int)) by rw [cj];apply decide_eq_decide.2;omega]
  cases en p <;> cases decide ((0:Int)<=fn) <;> cases decide (fn < (p.fns.length:Int)) <;> rfl
 rw [e];exact h
theorem YV (p:Src) (hk:∀ n∈p.nodes,n.kids.length<=1000000000000) (f:Go.Sp.Fn) (t:T) (hb:0<=f.body) (cU:fi p.nodes f.body.toNat t):GF prog 84 [.agg (av p),.v (ii f.body)] [] (.agg (cT t)) []:=by
 have:=GG p hk _ _ t ((yd _).1 t _ cU (aH _))
 rwa [Int.toNat_of_nonneg hb] at this
end Go.Xg
namespace Go.Im
open Go.Xp Go.Sp
theorem Good.Fk {p:Src} {l:List T} (h:Good p l):kC p.nodes p.fns 0 []=some (l,p.nodes.length):=h.st.Fk
structure tR (p:Src) (l:List T) (i:Nat) (f:Go.Sp.Fn) (t:T):Prop where
 good:Good p l
 gf:p.fns[i]?=some f
 gt:l[i]?=some t
 ok:Lt p t f.params
 wf:jj t
 z:zT t
 st:fi p.nodes f.body.toNat t
 body:0<=f.body
 sz:bc t<=800
theorem Good.fn {p:Src} {l:List T} (h:Good p l) {i:Nat} {f:Go.Sp.Fn} {t:T} (e1:p.fns[i]?=some f) (e2:l[i]?=some t):tR p l i f t:=by
 obtain ⟨a1,a2,a3,a4,a5⟩:=h.at_ _ _ _ e1 e2;refine ⟨h,e1,e2,a1,a2,a3,a4,a5,?_⟩;have:=h.st.few;have:=a4.le;omega
theorem sV {p:Src} {fn:Int} (h:jZ p fn=true):∃ (i:Nat) (l:List T) (f:Go.Sp.Fn) (t:T),fn=(i:Int)/\tR p l i f t:=by
 unfold jZ at h;simp only [aI,decide_eq_true_eq] at h;obtain ⟨⟨D,X⟩,h3⟩:=h;obtain ⟨l,hl⟩:=Vr D;have hlen:=hl.len
 have hi:fn.toNat < p.fns.length:=by omega
 have e1:p.fns[fn.toNat]?=some p.fns[fn.toNat]:=ct _;have e2:l[fn.toNat]?=some (l[fn.toNat]'zfw):=ct _;obtain ⟨a1,a2,a3,a4,a5⟩:=hl.at_ _ _ _ e1 e2;refine ⟨fn.toNat,l,_,_,by omega,hl,e1,e2,a1,a2,a3,a4,a5,?_⟩;have:=hl.st.few;have:=a4.le;omega
end Go.Im
namespace Go.Xg
open Go.RowKit Go.Xw Go.Proofs Go.Im
attribute [local irreducible] GW GL GO YG GC GA bg bj
theorem Ik:∀ l:List Int,oB (l.map fun i=>[GV.v (ii i)])=true
 | []=>rfl
 | a::l=>by
  have:=Ik l;rw [List.map_cons,oB,this];rfl
end Go.Xg
namespace Go.Xg
open Go.RowKit Go.Xw Go.Proofs Tryz Go.Im
open GV (U)
open Go.Xp (Nd T bc aD iu iO dX uV bE yI AW)
theorem DH:∀ (acJ A Δ:List Ob),acJ.length<=Δ.length->fo (A++acJ) (List.range' A.length acJ.length) Δ=A++Δ
 | [],A,Δ,h=>by
  show fo (A++[]) [] Δ=_;rw [fo,ef]
 | x::acJ,A,[],h=>by simp at h
 | x::acJ,A,y::Δ,h=>by
  rw [length_cons,List.range'_succ,fo]
  have e:oset (A++x::acJ) A.length y=(A++[y])++acJ:=by rw [Cz];simp
  have:=DH acJ (A++[y]) Δ zfx;rw [aO,length_singleton] at this;rw [e,this];simp
section
variable {P:Program} {m:Nat} {Q:dW} {fr:List GV} {Γ:List Ob} {ops:Array Oper} {rest:List Oper} {d:Option Tmp} {op:Op} {ty:TypeId} {pos:String} {af:Array Edge}
theorem GL.U4 {f:FuncId} [hf:aP P f] (A acJ:List Ob) {args:List Operand} {qz:Array TypeId} {gs:List GV} {R:GV->List Ob->Prop} (hc:GC P f gs acJ R) (bD:Γ=A++acJ) (hX:∀ x∈acJ,x.uH=true) (XE:∀ r,Go.Xg.nU r gs=gs) (ha:mW (args.map (bf fr)) gs)
  (h:∀ g Δ,R g Δ->acJ.length<=Δ.length/\(∀ x∈Δ,x.uH=true)/\(∀ r,eI r g=g)/\GL P m ops Q rest (bM fr d g) (A++Δ)) :
  GL P m ops Q (⟨d,.call ⟨.value (.func f),args.toArray,qz⟩,ty,pos,af,none⟩::rest) fr Γ:=by
 subst bD
 refine GL.Mf (List.range' A.length acJ.length) hc (by rw [XE];exact ha) (JM _ _ _ (by simp only [aO];omega)) ?_ fun g Δ hr=>?_
 ·have:=DG (cH (List.range' A.length acJ.length) (A++acJ).length) acJ A [] hX;rw [ef] at this;exact this
 obtain ⟨D,X,h3,h4⟩:=h g Δ hr;refine ⟨by rw [List.length_range'];exact D,?_⟩;rw [VI X,DH _ _ _ D,h3];exact h4
end
def cL (aR:List Nd) (h:Value) (ns:List Value):List Ob:=.vech 78 5 (List.zipWith dL aR ns) h::List.zipWith jE aR ns
structure qK (aR:List Nd) (h:Value) (ns:List Value):Prop where
 head:∃ a c,h=.slice a aR.length c
 len:ns.length=aR.length
 kid:∀ (i:Nat) x y,aR[i]?=some x->ns[i]?=some y->Hd x.kids.length y
theorem yU {aR:List Nd} {h:Value} {ns:List Value}:∀ x∈cL aR h ns,x.uH=true:=fun x hx=>by
 rcases eF hx with rfl | hx
 ·rfl
 ·exact Jd (fun _ _=>rfl) x hx
theorem uO {aR:List Nd} {h:Value} {ns:List Value} (H:qK aR h ns):(cL aR h ns).length=aR.length+1:=by
 unfold cL;rw [length_cons,tP,H.len,Nat.min_self]
def eK (x:Nd) (ks:List Int):Nd:=⟨x.kind,x.at_,x.n,x.s,ks⟩
theorem qK.snoc {aR:List Nd} {h:Value} {ns:List Value} (H:qK aR h ns) (x:Nd) {a b:Option Addr} {c d:Nat}:qK (aR++[x]) (.slice a (aR.length+1) c) (ns++[.slice b x.kids.length d]):=by
 refine ⟨⟨a,c,by simp⟩,by simp [H.len],fun i y v D X=>?_⟩;have hl:=H.len
 rcases Nat.lt_or_ge i aR.length with hi | hi
 ·rw [ff hi] at D;rw [ff G] at X;exact H.kid i y v D X
 ·rw [fA hi] at D;rw [fA G,hl] at X
  cases hk:i - aR.length with
  | zero =>
   rw [hk] at D X
   cases D;cases X
   exact zaD
  | succ k=>rw [hk] at D;simp at D
theorem JK {aR:List Nd} {ns:List Value} (hl:ns.length=aR.length) (x:Nd) (y h:Value):cL (aR++[x]) h (ns++[y])=.vech 78 5 (List.zipWith dL aR ns++[dL x y]) h::(List.zipWith jE aR ns++[jE x y]):=by
 unfold cL;rw [List.zipWith_append hl.symm,List.zipWith_append hl.symm];rfl
theorem qK.put {aR:List Nd} {h:Value} {ns:List Value} (H:qK aR h ns) {i:Nat} {x:Nd} (hx:aR[i]?=some x) (ks:List Int) {b:Option Addr} {d n:Nat} (hn:n=ks.length):qK (aR.set i (eK x ks)) h (ns.set i (.slice b n d)):=by
 subst hn;obtain ⟨a,c,e⟩:=H.head;refine ⟨⟨a,c,by rw [e,length_set]⟩,by simp [H.len],fun j y v D X=>?_⟩;rw [eG] at D X
 by_cases fj:i=j
 ·rw [ae fj] at D X;split at D
  ·cases D;split at X
   ·cases X;exact zaD
   ·cases X
  ·cases D
 ·rw [ab fj] at D X;exact H.kid j y v D X
theorem Ay:∀ {aR:List Nd} {ns:List Value} {i:Nat} {x:Nd} (ks:List Int) (y:Value),ns.length=aR.length->aR[i]?=some x->gF (List.zipWith dL aR ns) i 4 (.v y)=List.zipWith dL (aR.set i (eK x ks)) (ns.set i y)
 | [],ns,i,x,ks,y,hl,h=>by simp at h
 | n::aR,[],i,x,ks,y,hl,h=>by simp at hl
 | n::aR,v::ns,0,x,ks,y,hl,h=>by cases h;rfl
 | n::aR,v::ns,i+1,x,ks,y,hl,h=>by
  have:=Ay (aR:=aR) (ns:=ns) (i:=i) (x:=x) ks y zfz zfx;rw [zipWith_cons_cons,gF,this];rfl
theorem Aw:∀ {aR:List Nd} {ns:List Value} {i:Nat} {x:Nd} (ks:List Int) (y:Value),ns.length=aR.length->aR[i]?=some x->oset (List.zipWith jE aR ns) i (.vech 3 1 (aU ks) y)=List.zipWith jE (aR.set i (eK x ks)) (ns.set i y)
 | [],ns,i,x,ks,y,hl,h=>by simp at h
 | n::aR,[],i,x,ks,y,hl,h=>by simp at hl
 | n::aR,v::ns,0,x,ks,y,hl,h=>by cases h;rfl
 | n::aR,v::ns,i+1,x,ks,y,hl,h=>by
  have:=Aw (aR:=aR) (ns:=ns) (i:=i) (x:=x) ks y zfz zfx;rw [zipWith_cons_cons,oset,this];rfl
def kM (aR:List Nd) (n:Nd) (l:List T) (k:Nat):List Nd:=aR++eK n (bE (aR.length+1) (l.take k))::dX (aR.length+1) (l.take k)
theorem Ia {aR:List Nd} {n:Nd} {l:List T} {k:Nat}:(kM aR n l k).length=aR.length+1+aD (l.take k):=by
 unfold kM;rw [aO,length_cons,uV];omega
theorem VJ {aR:List Nd} {n:Nd} {l:List T} {k:Nat}:(kM aR n l k)[aR.length]?=some (eK n (bE (aR.length+1) (l.take k))):=by
 unfold kM;rw [fA (aH _),qt];rfl
theorem Qa {aR:List Nd} {n:Nd} {l:List T} {k:Nat} {u:T} (h:l[k]?=some u) :
  (kM aR n l k).set aR.length (eK (eK n (bE (aR.length+1) (l.take k))) (bE (aR.length+1) (l.take k)++[(((kM aR n l k).length:Nat):Int)]))++iO (kM aR n l k).length u=kM aR n l (k+1):=by
 have nP:l.take (k+1)=l.take k++[u]:=by rw [dh,h];rfl
 rw [Ia];unfold kM;rw [List.set_append_right _ _ (aH _),qt,set_cons_zero,nP,yI,AW];simp only [bE,dX,ef,eK,fP,cons_append]
theorem SL {aR:List Nd} {n:Nd} {l:List T}:kM aR n l l.length=aR++iO aR.length (.mk n l):=by
 unfold kM eK;rw [di,iO]
attribute [local irreducible] GW GL GO YG GC GA bg bj
theorem Sn:∀ (N:Nat) (t:T),bc t<=N->∀ (aR:List Nd) (h:Value) (ns:List Value),qK aR h ns->aR.length+bc t<=8388608 ->
  GC prog 218 [.v h,.agg (cT t)] (cL aR h ns) fun g Δ=>∃ h' o8,qK (aR++iO aR.length t) h' o8/\g=.v h'/\Δ=cL (aR++iO aR.length t) h' o8:=by
 intro N
 induction N with
 | zero=>intro t h;exact zeB
 | succ N ih =>
 intro t hN aR h ns H hb
 cases t with
 | mk n l =>
 rw [Go.Xp.bc] at hN hb;have qx:=iu l;have fB:(bd l).length=l.length:=be l;have dK:=uO H;have sH:=H.len;obtain ⟨a0,c0,rfl⟩:=H.head
 have iR:(List.zipWith dL aR ns).length=aR.length:=by rw [tP];omega
 have hOl:(List.zipWith jE aR ns).length=aR.length:=by rw [tP];omega
 have hOk:∀ q,sM q (List.zipWith jE aR ns)=true:=fun q=>Lr (Jd (fun _ _=>rfl))
 have hsn:=fun (y h:Value)=>JK sH (eK n []) y h
 have hHs:=fun (a:Option Addr) (c:Nat)=>H.snoc (eK n []) (a:=a) (c:=c) (b:=none) (d:=0)
 refine ei func218 ntmps218 ?_;rw [dK];unfold cL;generalize List.zipWith dL aR ns=R at *;generalize List.zipWith jE aR ns=O at *;refine GW.seq ?_;refine GW.region ?_;refine GL.Me rfl rfl ?_;refine cM ?_;refine Bi ?_;refine GL.abU rfl rfl rfl rfl rfl rfl ?_;refine cM ?_
 have hq:∀ x:Ob,(x::O).length=O.length+1:=fun x=>rfl
 simp only [hq,cons_append]
 have hbx:∀ x y:Ob,(x::(O++[y]))[O.length+1]?=some y:=fun x y=>WD (x::O) [] y
 have hsx:∀ x y z:Ob,oset (x::(O++[y])) (O.length+1) z=x::(O++[z]):=fun x y z=>Cz (x::O) [] y z
 refine I ?_;refine GL.st rfl (hbx _ _) rfl rfl rfl rfl ?_;refine tQ uQ (hsx _ _ _) ?_;refine I ?_;refine GL.q (YG.Sw rfl (hbx _ _) rfl rfl) ?_;refine cM ?_;refine GL.hO 0 rfl rfl rfl rfl rfl rfl rfl rfl iR kO ?_;intro a1 c1;refine za2 ?_;refine GW.range (bd l).length (fun k fr Γ=>∃ h' o8,fr=[.v h',U,U,.box (cT (.mk n l)) 0,U,.v (ii (aR.length:Nat)),U,U,U,U,U,U,U,U,U,U,U,U,U,.sl 6 (bd l),.v (ii ((bd l).length:Int)),.v (ii (k:Nat)),U,U,U,U,U,U,U,U,U,U,U,U,U,U,U,U,U,U,U,U,U]/\qK (kM aR n l k) h' o8/\Γ=cL (kM aR n l k) h' o8) ?_ G ?_ ?_ ?_
 ·have e0:kM aR n l 0=aR++[eK n []]:=by unfold kM;rw [List.take_zero];rfl
  rw [e0];refine ⟨_,_,((Wk.Vb (A:=_::O) rfl (by rw [length_cons,hOl];exact aH _) (fun q=>by simp only [sM,hOk];rfl)).trans (Wk.ln 3 1)).trans (Wk.aJ ar),_,ns++[.slice none 0 0],rfl,hHs a1 c1,?_⟩;rw [hsn];rfl
 ·rintro k _ _ ⟨h',o8,rfl,_,rfl⟩;exact ea
 ·rintro k _ _ au ⟨h',o8,rfl,HM,rfl⟩;rw [fB] at au;obtain ⟨u,hu⟩:∃ u,l[k]?=some u:=⟨l[k],by simp [au]⟩;have hr:=dB hu;have dR:=tz hu;have hMl:=Ia (aR:=aR) (n:=n) (l:=l) (k:=k);have KC:=VJ (aR:=aR) (n:=n) (l:=l) (k:=k);have hMn:=Qa (aR:=aR) (n:=n) hu;rw [<-hMn];obtain ⟨a2,c2,rfl⟩:=HM.head;have XM:=HM.len;obtain ⟨y,hy⟩:∃ y,o8[aR.length]?=some y:=⟨o8[aR.length]'G,ct _⟩;obtain ⟨a3,c3,rfl⟩:=HM.kid _ _ _ KC hy
  have kc:=fun (a:Option Addr) (c:Nat)=>HM.put KC (bE (aR.length+1) (l.take k)++[(((kM aR n l k).length:Nat):Int)]) (b:=a) (d:=c) (n:=(bE (aR.length+1) (l.take k)).length+1) zfu
  have XW:=fun (y:Value)=>Ay (bE (aR.length+1) (l.take k)++[(((kM aR n l k).length:Nat):Int)]) y XM KC
  have eU:=fun (y:Value)=>Aw (bE (aR.length+1) (l.take k)++[(((kM aR n l k).length:Nat):Int)]) y XM KC
  have bx:(List.zipWith dL (kM aR n l k) o8)[aR.length]?=some (dL (eK n (bE (aR.length+1) (l.take k))) (.slice a3 (bE (aR.length+1) (l.take k)).length c3)):=by rw [getElem?_zipWith,KC,hy];rfl
  have jN:(List.zipWith jE (kM aR n l k) o8)[aR.length]?=some (.vech 3 1 (aU (bE (aR.length+1) (l.take k))) (.slice a3 (bE (aR.length+1) (l.take k)).length c3)):=by rw [getElem?_zipWith,KC,hy];rfl
  have Dd:aR.length < (List.zipWith dL (kM aR n l k) o8).length:=by rw [tP];omega
  have fC:(aU (bE (aR.length+1) (l.take k))).length=(bE (aR.length+1) (l.take k)).length:=by simp [aU]
  have ny:aU (bE (aR.length+1) (l.take k)++[(((kM aR n l k).length:Nat):Int)])=aU (bE (aR.length+1) (l.take k))++[[.v (ii ((kM aR n l k).length:Nat))]]:=by simp [aU]
  have qw:(bE (aR.length+1) (l.take k)).length<=8388608:=by
   rw [Go.Xp.eC,gy];omega
  rw [ny] at eU
  have z7:=fun (h:Value) (Ih:List Value) H2=>ih u G ((kM aR n l k).set aR.length (eK (eK n (bE (aR.length+1) (l.take k))) (bE (aR.length+1) (l.take k)++[(((kM aR n l k).length:Nat):Int)]))) h Ih H2 (by rw [length_set];omega)
  rw [length_set] at z7;unfold cL;generalize Pp:bE (aR.length+1) (l.take k)=ks at *;generalize hM:kM aR n l k=M at *;generalize hM2:M.set aR.length (eK (eK n ks) (ks++[((M.length:Nat):Int)]))=M2 at *
  have MB:∀ x:Ob,(x::List.zipWith jE M o8)[aR.length+1]?=some (.vech 3 1 (aU ks) (.slice a3 ks.length c3)):=fun x=>jN
  generalize List.zipWith jE M o8=O2 at *;generalize List.zipWith dL M o8=R2 at *;unfold dL eK at bx;refine Bi ?_;refine zcH ?_;refine GL.hO (aR.length+1) rfl rfl rfl rfl rfl rfl rfl (MB _) fC kO ?_;intro a4 c4;refine tQ uQ (by simp only [oset];rw [eU]) ?_;refine I ?_;refine I6 ?_;simp only [ed];rw [XW];have H2:=kc a4 c4;have mw:=uO H2;refine I ?_;refine GL.U4 [] (cL M2 (.slice a2 M.length c2) (o8.set aR.length (.slice a4 (ks.length+1) c4))) (z7 _ _ H2) rfl yU (fun _=>rfl) (wU) ?_;rintro _ _ ⟨h5,ns5,H5,rfl,rfl⟩;have hl5:=uO H5;rw [aO] at hl5;refine ⟨by rw [mw,hl5];omega,yU,fun _=>rfl,?_⟩;rw [nil_append];refine zaS ?_;exact ⟨rfl,rfl,_,_,Wk.aJ ar,h5,ns5,rfl,H5,rfl⟩
 ·rintro _ _ ⟨h',o8,rfl,HM,rfl⟩;rw [fB] at HM |-;rw [SL] at HM |-;have abw:=uO HM;refine bh ?_;unfold cL;refine zdm ?_;refine rl (n:=(cL (aR++iO aR.length (.mk n l)) h' o8).length) rfl dO rfl (by rw [abw,aO];omega) ?_ rfl ?_
  ·show uI _ (List.take _ (cL _ _ _))=true;rw [di];exact Lr yU
  ·show ∃ X Ih,_/\_/\List.take _ (cL _ _ _)=_;rw [di];exact ⟨h',o8,HM,rfl,rfl⟩
end Go.Xg
set_option maxHeartbeats 2000000
namespace Go.Xg
open Go.RowKit Go.Xw Go.Proofs Go.Im
open Go.Sp (Src)
def QP (l:List Value) (i:Nat):Value:=(l[i]?).getD undef
theorem Rp {K:Fz} {β:Bt} {v a b c d:Value} (h:Rel K β v (.agg [.v a,.v b,.v c,.v d])):v=.agg #[a,b,c,d]:=by
 cases h with
 | agg vs cs hl h =>
  match vs,hl with
  | [x,y,z,u],_ =>
   rw [Rel.eE (h 0 x _ rfl rfl),Rel.eE (h 1 y _ rfl rfl),Rel.eE (h 2 z _ rfl rfl),Rel.eE (h 3 u _ rfl rfl)]
section
variable {B:Bs} {K:Fz} {β:Bt} {w:World} {l:List Value} {fr:List GV} {A C acJ:List Ob} {p:Src} {hg ha hf hn:Value} {fs ns:List Value}
theorem OB (p:Src):∀ g∈av p,g.pc=true:=fun g hg=>by
 simp only [av,List.mem_cons,not_mem_nil,or_false] at hg
 rcases hg with rfl | rfl | rfl | rfl <;> rfl
end
end Go.Xg
namespace Go.Xg
open Go.RowKit Go.Xw Go.Proofs
open Go.Xp (Nd)
theorem Qs {K K':Fz} {β bR:Bt} {vs:List Value} {gs:List GV} (h:bs K β vs gs) (hg:∀ g∈gs,∃ x,g=.v x):bs K' bR vs gs :=
 ⟨h.1,fun i v g D X=>by
  obtain ⟨x,rfl⟩:=hg g (br X)
  rw [Rel.eE (h.2 i v _ D X)];exact .v _⟩
def Ob.PH:Ob->Prop
 | .vech _ _ rows _=>∀ r∈rows,∀ g∈r,∃ x,g=GV.v x
 | _=>False
def bkO:Ob->Bk
 | .vech _ _ rows x=>.gr x rows.length
 | _=>.no
def lR (N:List Ob):Bt:=fun i=>match N[i]? with
 | some x=>bkO x
 | none=>.no
structure Pk (N:List Ob) (h:Nat->Option Obj):Prop where
 plain:∀ x∈N,x.PH
 dis:∀ i j b,(lR N i).has b->(lR N j).has b->i=j
 dom:∀ b,(h b).isSome=true↔∃ i,(lR N i).has b
 own:∀ w:World,(∀ b o,h b=some o->w.heap[b]?=some o)->∀ (i:Nat) E k rows x,N[i]?=some (.vech E k rows x)->jx k rows/\∃ xs,iL w 0 E k x rows.length xs/\bs (fun _ _=>none) (fun _=>.no) xs rows.flatten
abbrev blob (N:List Ob):Ob:=.blob (Pk N)
theorem zD {N:List Ob} {i:Nat} {x:Ob} (h:N[i]?=some x):lR N i=bkO x:=by unfold lR;rw [h]
theorem CO {N:List Ob} {i:Nat} (h:N.length<=i):lR N i=.no:=by unfold lR;rw [getElem?_eq_none h]
theorem SO {w w':World} {base e k:Nat} {v:Value} {n:Nat} {xs:List Value} (h:iL w base e k v n xs) (hs:∀ b o,v.ownBlock=some b->w.heap[b]?=some o->w'.heap[b]?=some o):iL w' base e k v n xs:=by
 obtain ⟨D,X⟩:=h;refine ⟨D,?_⟩
 rcases X with X | ⟨g,cap,cur,rfl,hb,hg,r⟩
 ·exact .inl X
 ·exact .inr ⟨g,cap,cur,rfl,hb,hs g _ rfl hg,r⟩
theorem Pk.ob {N:List Ob} {h:Nat->Option Obj} {K:Fz} {β:Bt} {w:World} {i j:Nat} {x:Ob} (hp:Pk N h) (hh:∀ b o,h b=some o->w.heap[b]?=some o/\∀ j,K b j=none) (hx:N[j]?=some x) (mR:β i=lR N j):lB K β w i x:=by
 have c8:=hp.plain x (br hx)
 cases x with
 | vech E k rows v =>
  obtain ⟨D,xs,X,h3⟩:=hp.own w (fun b o hb=>(hh b o hb).1) j E k rows v hx;refine ⟨xs,by rw [mR,zD hx];rfl,X,Qs h3 (fun g hg=>?_),D,fun b hb o=>?_⟩
  ·obtain ⟨r,lz,et⟩:=List.mem_flatten.1 hg;exact c8 r lz g et
  ·have:(h b).isSome=true:=(hp.dom b).2 ⟨j,by rw [zD hx];exact hb⟩;obtain ⟨y,hy⟩:=Option.isSome_iff_exists.1 this;exact (hh b y hy).2 o
 | _=>exact c8.elim
theorem Lv {K:Fz} {β:Bt} {w:World} {N:List Ob} (s:Nat) (hN:∀ x∈N,x.PH) (ho:∀ (j:Nat) x,N[j]?=some x->lB K β w (s+j) x) (hd:∀ i j b,(β i).has b->(β j).has b->i=j) :
  ∃ h:Nat->Option Obj,(∀ b o,h b=some o->w.heap[b]?=some o/\∀ j,K b j=none)/\Pk N h/\∀ b,(h b).isSome=true->∃ j,j < N.length/\(β (s+j)).has b:=by
 classical
 have mR:∀ j,j < N.length->β (s+j)=lR N j:=fun j hj=>by
  have hx:N[j]?=some N[j]:=ct hj;have hp:=hN _ (br hx);have h0:=ho j _ hx;rw [zD hx];generalize N[j]=x at *
  cases x with
  | vech E k rows v=>obtain ⟨xs,D,_⟩:=h0;exact D
  | _=>exact hp.elim
 have au:∀ j b,(lR N j).has b->j < N.length:=fun j b hb=>by
  rcases Nat.lt_or_ge j N.length with h | h
  ·exact h
  ·rw [CO h] at hb;exact hb.elim
 have dR:∀ j b,(lR N j).has b->b < w.heap.size:=fun j b hb=>by
  have hj:=au j b hb;exact (ho j _ (ct hj)).lt (by rw [mR j hj];exact hb)
 refine ⟨fun b=>if ∃ j,(lR N j).has b then w.heap[b]? else none,fun b o hb=>?_,⟨hN,fun i j b hi hj=>?_,fun b=>?_,fun w' hw' i E k rows x hx=>?_⟩,fun b hb=>?_⟩
 ·simp only at hb;split at hb
  ·rename_i hj;refine ⟨hb,fun o=>?_⟩;obtain ⟨j,hj⟩:=hj;have oR:=au j b hj;have hx:N[j]?=some N[j]:=ct oR;have hp:=hN _ (br hx);have h0:=ho j _ hx;rw [zD hx] at hj;generalize N[j]=x at *
   cases x with
   | vech E k rows v=>obtain ⟨xs,_,_,_,_,h5⟩:=h0;exact h5 b hj o
   | _=>exact hp.elim
  ·cases hb
 ·have D:=au i b hi;have X:=au j b hj;have:=hd (s+i) (s+j) b (by rw [mR i D];exact hi) (by rw [mR j X];exact hj);omega
 ·constructor
  ·intro h;split at h
   ·rename_i hj;exact hj
   ·cases h
  ·rintro ⟨j,hj⟩;rw [ae ⟨j,hj⟩];have:=dR j b hj;simp [this]
 ·have hp:=hN _ (br hx);obtain ⟨xs,D,X,h3,h4,_⟩:=ho i _ hx;refine ⟨h4,xs,SO X fun b o hb uc=>hw' b o ?_,Qs h3 fun g hg=>?_⟩
  ·show (if ∃ j,(lR N j).has b then w.heap[b]? else none)=some o;rw [ae ⟨i,by rw [zD hx];exact hb⟩];exact uc
  ·obtain ⟨r,lz,et⟩:=List.mem_flatten.1 hg;exact hp r lz g et
 ·simp only at hb;split at hb
  ·rename_i hj;obtain ⟨j,hj⟩:=hj;have oR:=au j b hj;exact ⟨j,oR,by rw [mR j oR];exact hj⟩
  ·cases hb
section
variable {B:Bs} {K:Fz} {β:Bt} {Γ:List Ob} {w:World}
theorem Inv.unpack {i:Nat} {N:List Ob} (hI:Inv B K β Γ w) (bD:Γ[i]?=some (blob N)) :
  ∃ bR,dI β bR/\(∀ j,j < N.length->bR (Γ.length+j)=lR N j)/\(∀ j b,(bR j).has b->∃ q,(β q).has b)/\Inv B K bR (oset Γ i .gone++N) w:=by
 obtain ⟨h,e,hh,hp⟩:=hI.ob i _ bD;have hi:=(bu bD).1
 have kE:∀ b,(β i).has b↔(h b).isSome=true:=fun b=>by rw [e];exact Iff.rfl
 have Ac:(oset Γ i .gone).length=Γ.length:=by rw [bK,length_set]
 have e0:∀ j,j < Γ.length->(if j < Γ.length then (if j=i then Bk.no else β j) else lR N (j - Γ.length))=if j=i then Bk.no else β j:=fun j hj=>ae hj
 have e1:∀ j,Γ.length<=j->(if j < Γ.length then (if j=i then Bk.no else β j) else lR N (j - Γ.length))=lR N (j - Γ.length):=fun j hj=>ab G
 have hle:dI β (fun j=>if j < Γ.length then (if j=i then Bk.no else β j) else lR N (j - Γ.length)):=fun j=>by
  rcases Nat.lt_or_ge j Γ.length with hj | hj
  ·simp only [e0 j hj]
   by_cases kV:j=i
   ·subst kV;rw [e];trivial
   ·rw [ab kV];exact uq.refl _
  ·rw [hI.out j hj];trivial
 have hN:∀ j b,(lR N j).has b->(β i).has b:=fun j b hb=>(kE b).2 ((hp.dom b).2 ⟨j,hb⟩)
 have zZ:∀ j b,((fun j=>if j < Γ.length then (if j=i then Bk.no else β j) else lR N (j - Γ.length)) j).has b->(j < Γ.length/\j≠i/\(β j).has b)\/(Γ.length<=j/\(lR N (j - Γ.length)).has b):=fun j b hb=>by
  rcases Nat.lt_or_ge j Γ.length with hj | hj
  ·simp only [e0 j hj] at hb
   by_cases kV:j=i
   ·rw [ae kV] at hb;exact hb.elim
   ·rw [ab kV] at hb;exact .inl ⟨hj,kV,hb⟩
  ·simp only [e1 j hj] at hb;exact .inr ⟨hj,hb⟩
 have hq:∀ j b,((fun j=>if j < Γ.length then (if j=i then Bk.no else β j) else lR N (j - Γ.length)) j).has b->∃ q,(β q).has b:=fun j b hb=>by
  rcases zZ j b hb with ⟨_,_,D⟩ | ⟨_,D⟩
  ·exact ⟨j,D⟩
  ·exact ⟨i,hN _ b D⟩
 generalize HR:(fun j=>if j < Γ.length then (if j=i then Bk.no else β j) else lR N (j - Γ.length))=bR at *;refine ⟨bR,hle,fun j hj=>?_,hq,hI.ext,hI.kle,hI.ble.trans hle,hI.loc,hI.fz,fun j x hj=>?_,fun j hj=>?_,fun a c b ha hc=>?_,fun j b hj=>?_,hI.kn,hI.tab.step (S:=gL) (Ext.refl w) (fun _ h=>h.elim) (cW.refl K) (fun j b hj=>.inl (hq j b hj))⟩
 ·subst HR;simp only;rw [ab G,Nat.add_sub_cancel_left]
 ·rcases Nat.lt_or_ge j Γ.length with hl | hl
  ·rw [ff G,bK,eG] at hj
   by_cases kV:i=j
   ·rw [ae kV,ae hi] at hj;cases hj;show bR j=.no;subst HR;simp only;rw [ae hl,ae kV.symm]
   ·rw [ab kV] at hj;exact (hI.ob j x hj).ext (S:=gL) (Ext.refl w) (fun _ _ h=>h) (cW.refl K) hle (by subst HR;simp only;rw [ae hl,ab (fun e=>kV e.symm)]) (fun _ _ _ h=>h)
  ·rw [fA G,Ac] at hj;exact hp.ob hh hj (by subst HR;simp only;rw [ab G])
 ·rw [aO,Ac] at hj;subst HR;simp only;rw [ab G,CO G]
 ·rcases zZ a b ha with ⟨a1,a2,a3⟩ | ⟨a1,a2⟩ <;> rcases zZ c b hc with ⟨c1,c2,c3⟩ | ⟨c1,c2⟩
  ·exact hI.dis a c b a3 c3
  ·exact absurd (hI.dis a i b a3 (hN _ b c2)) a2
  ·exact absurd (hI.dis c i b c3 (hN _ b a2)) c2
  ·have:=hp.dis _ _ b a2 c2;omega
 ·obtain ⟨q,hq⟩:=hq j b hj;exact hI.own q b hq
end
section
variable {P:Program} {m:Nat} {fr:List GV} {Γ:List Ob}
theorem Wk.unpack (i:Nat) {N:List Ob} (bD:Γ[i]?=some (blob N)):Wk m fr Γ fr (oset Γ i .gone++N):=fun B K β w l hB hI hF=>by
 obtain ⟨bR,D,_,_,h4⟩:=hI.unpack bD;exact ⟨K,bR,h4,hF.mono (cW.refl K) D⟩
theorem Wk.pack (A N:List Ob) (bD:Γ=A++N) (hm:m<=A.length) (hN:∀ x∈N,x.PH) (hA:uI A.length A=true):Wk m fr Γ (w6 A.length fr) (A++[blob N]):=fun B K β w l hB hI hF=>by
 have zn:∀ (j:Nat) x,N[j]?=some x->Γ[A.length+j]?=some x:=fun j x hj=>by rw [bD,fA G,Nat.add_sub_cancel_left];exact hj
 obtain ⟨h,hh,hp,hd⟩:=Lv (K:=K) (β:=β) (w:=w) A.length hN (fun j x hj=>hI.ob _ x (zn j x hj)) hI.dis
 have nP:Γ.take A.length=A:=by rw [bD];simp
 have hc:=hI.cut (n:=A.length) G (by rw [nP];exact hA);rw [nP] at hc;have Hx:eN (below A.length) β A.length=.no:=ql (sP (aH _));have hold:dI (eN (below A.length) β) (fw (eN (below A.length) β) A.length (.set fun b=>(h b).isSome=true)):=jy (by rw [Hx];trivial)
 have cl:∀ b,(h b).isSome=true->∀ i,¬ (eN (below A.length) β i).has b:=fun b hb i hi=>by
  obtain ⟨j,_,hj⟩:=hd b hb
  by_cases mu:i < A.length
  ·rw [ij (xm mu)] at hi;have:=hI.dis i _ b hi hj;omega
  ·rw [ql (sP G)] at hi;cases hi
 refine ⟨K,fw (eN (below A.length) β) A.length (.set fun b=>(h b).isSome=true),?_,(hF.res).mono (cW.refl K) hold⟩;refine ⟨hc.ext,hc.kle,hc.ble.trans hold,hc.loc,hc.fz,fun i z hi=>?_,fun i hi=>?_,fun i i' b hi hj=>?_,fun i b hi=>?_,hc.kn,⟨hc.tab.le,hc.tab.pow,hc.tab.spc,fun i b hi=>?_⟩⟩
 ·by_cases uC:i < A.length
  ·rw [ff G] at hi;exact (hc.ob i z hi).ext (S:=gL) (Ext.refl w) (fun _ _ h=>h) (cW.refl K) hold (bO G) (fun _ _ _ h=>h)
  ·have:i=A.length:=by have:=(bu hi).1;rw [aO,length_singleton] at this;omega
   subst this;rw [fA G,qt] at hi;cases hi;exact ⟨h,bC,hh,hp⟩
 ·rw [aO,length_singleton] at hi;rw [bO G];exact ql (sP G)
 ·by_cases D:i=A.length <;> by_cases X:i'=A.length
  ·omega
  ·subst D;rw [bC] at hi;rw [bO X] at hj;exact absurd hj (cl b hi i')
  ·subst X;rw [bC] at hj;rw [bO D] at hi;exact absurd hi (cl b hj i)
  ·rw [bO D] at hi;rw [bO X] at hj;exact hc.dis i i' b hi hj
 ·rcases lL hi with D | D
  ·obtain ⟨j,_,hj⟩:=hd b D;exact hI.own _ b hj
  ·exact hc.own i b D
 ·rcases lL hi with D | D
  ·obtain ⟨j,_,hj⟩:=hd b D;exact hI.tab.free _ b hj
  ·exact hc.tab.free i b D
end
theorem GC.blob {P:Program} {f:FuncId} {gs:List GV} {N:List Ob} {R:GV->List Ob->Prop} (hc:GC P f gs N R) (hR:∀ g Δ,R g Δ->(∀ x∈Δ,x.PH)/\∃ x,g=.v x) :
  GC P f gs [Go.Xg.blob N] fun g Δ=>∃ N',R g N'/\Δ=[Go.Xg.blob N']:=fun B K β w vs hB hI hF=>by
 obtain ⟨h,e,hh,hp⟩:=hI.ob 0 _ rfl
 have kE:∀ b,(β 0).has b↔(h b).isSome=true:=fun b=>by rw [e];exact Iff.rfl
 have hN:∀ j b,(lR N j).has b->(β 0).has b:=fun j b hb=>(kE b).2 ((hp.dom b).2 ⟨j,hb⟩)
 have hle:dI β (fun j=>lR N j)->bs K (lR N) vs gs:=fun hb=>hF.mono (cW.refl K) hb
 have cl:∀ i,0 < i->β i=.no:=fun i hi=>hI.out i hi
 have hB1:dI β (lR N):=fun j=>by
  rcases Nat.eq_zero_or_pos j with hj | hj
  ·subst hj;rw [e];trivial
  ·rw [cl j hj];trivial
 have hI1:Inv (cur K (lR N) N w) K (lR N) N w :=
  ⟨Ext.refl w,cW.refl K,dI.refl _,fun i hi=>CO hi,hI.fz,fun i x hx=>hp.ob hh hx rfl,fun i hi=>CO hi,hp.dis,fun i b hb=>.inl ⟨i,hb⟩,fun _ _ _ h=>.inl h,hI.tab.step (S:=gL) (Ext.refl w) (fun _ h=>h.elim) (cW.refl K) (fun j b hj=>.inl ⟨0,hN j b hj⟩)⟩
 refine (hc _ K (lR N) w vs rfl hI1 (hle hB1)).mono ?_;rintro v w' ⟨K',bR,g,aV,bA,hr,hRg⟩;obtain ⟨c8,x,rfl⟩:=hR g aV hRg;obtain ⟨h',XF,jJ,C7⟩:=Lv (K:=K') (β:=bR) (w:=w') 0 c8 (fun j x hj=>by rw [ed];exact bA.ob j x hj) bA.dis
 have oP:∀ b,(h' b).isSome=true->∃ j,(bR j).has b:=fun b hb=>by obtain ⟨j,_,hj⟩:=C7 b hb;exact ⟨0+j,hj⟩
 have yD:∀ b,blocks (lR N) b->(β 0).has b:=fun b ⟨j,hj⟩=>hN j b hj
 refine ⟨K',fun i=>if i=0 then .set (fun b=>(h' b).isSome=true) else .no,.v x,[Go.Xg.blob aV],?_,hr.pc rfl,aV,hRg,rfl⟩
 have h0:∀ i b,((fun i=>if i=0 then Bk.set (fun b=>(h' b).isSome=true) else .no) i).has b->i=0/\(h' b).isSome=true:=fun i b hb=>by
  simp only at hb;split at hb
  ·rename_i hi;exact ⟨hi,hb⟩
  ·exact hb.elim
 refine ⟨hI.ext.step bA.ext (fun j hj=>(hI.own 0 j (yD j hj)).symm),hI.kle.trans bA.kle,fun i=>?_,hI.loc,bA.fz,fun i z hi=>?_,fun i hi=>?_,fun i j b hi hj=>?_,fun i b hi=>?_,fun b o g hg=>?_,bA.tab.step (S:=gL) (Ext.refl w') (fun _ h=>h.elim) (cW.refl K') (fun i b hi=>.inl (oP b (h0 i b hi).2))⟩
 ·have:=hI.ble i
  rcases Nat.eq_zero_or_pos i with hi | hi
  ·subst hi;rw [e] at this;generalize B.β0 0=y at this
   cases y with
   | no=>trivial
   | set S=>trivial
   | fix b=>cases this
   | gr a b=>obtain ⟨_,_,h,_⟩:=this;cases h
  ·rw [hI.loc i (by rw [hB];exact hi)];trivial
 ·cases i with
  | zero =>
   cases hi;exact ⟨h',rfl,XF,jJ⟩
  | succ i=>simp at hi
 ·show (if i=0 then Bk.set (fun b=>(h' b).isSome=true) else .no)=.no;rw [ab (by have:(1:Nat)<=i:=hi;omega)]
 ·rw [(h0 i b hi).1,(h0 j b hj).1]
 ·obtain ⟨j,hj⟩:=oP b (h0 i b hi).2
  rcases bA.own j b hj with D | D
  ·exact hI.own 0 b (yD b D)
  ·exact .inr (jg hI.ext.size D)
 ·rcases bA.kn b o g hg with D | D | D
  ·exact hI.kn b o g D
  ·exact .inr (hI.own 0 b (yD b D))
  ·exact .inr (.inr (jg hI.ext.size D))
theorem Dw {aR:List Nd} {h:Value} {ns:List Value}:∀ x∈cL aR h ns,x.PH:=fun x hx=>by
 rcases eF hx with rfl | hx
 ·intro r hr g hg;obtain ⟨i,hi⟩:=getElem?_of_mem hr;rw [getElem?_zipWith] at hi;split at hi
  ·cases hi;unfold dL at hg;simp only [List.mem_cons,not_mem_nil,or_false] at hg
   rcases hg with rfl | rfl | rfl | rfl | rfl <;> exact ⟨_,rfl⟩
  ·cases hi
 ·obtain ⟨i,hi⟩:=getElem?_of_mem hx;rw [getElem?_zipWith] at hi;split at hi
  ·cases hi;intro r hr g hg;obtain ⟨s,_,rfl⟩:=wW.1 hr;rw [AK hg];exact zeC
  ·cases hi
theorem Inv.wO {B:Bs} {K:Fz} {β:Bt} {Γ A:List Ob} {w:World} {aR:List Nd} {h:Value} {ns:List Value} (hI:Inv B K β Γ w) (H:qK aR h ns) (bD:Γ=A++cL aR h ns) (hm:B.m<=A.length) (hA:uI A.length A=true) :
  ∃ K',cW K K'/\Rel K' (fun _=>.no) h (.sl 5 (aR.map aW))/\Inv B K' (eN (below A.length) β) A w:=by
 have hl:=H.len
 have hN:∀ i,i < aR.length->aR[i]?=some (aR.getD i ⟨0,0,0,[],[]⟩)/\ns[i]?=some (QP ns i):=fun i hi=>by
  unfold QP;rw [List.getD_eq_getElem?_getD,ct hi,ct (show i < ns.length by omega)];exact zak
 have g3:Γ[A.length]?=some (.vech 78 5 (List.zipWith dL aR ns) h):=by rw [bD,fA (aH _),qt];rfl
 have gN:∀ i,i < aR.length->Γ[A.length+1+i]?=some (.vech 3 1 (aU (aR.getD i ⟨0,0,0,[],[]⟩).kids) (QP ns i)):=fun i hi=>by
  rw [bD,fA G,show A.length+1+i - A.length=i+1 by omega];unfold cL;rw [List.getElem?_cons_succ,Q8 (hN i hi).1 (hN i hi).2];rfl
 obtain ⟨K2,LW,R2,k2,i2,f2,l2,r2,o2⟩:=hI.IB (jf:=A.length) (N:=aR.length) (o:=4) (E:=3) (k':=1) (raw:=fun i=>dL (aR.getD i ⟨0,0,0,[],[]⟩) (QP ns i)) (fin:=fun i=>aW (aR.getD i ⟨0,0,0,[],[]⟩)) (ks:=fun i=>aU (aR.getD i ⟨0,0,0,[],[]⟩).kids) (hd:=fun i=>QP ns i) (jp:=fun i=>A.length+1+i)
  g3 ⟨by rw [tP];omega,fun i hi=>Q8 (hN i hi).1 (hN i hi).2⟩ (fun i hi=>⟨rfl,rfl⟩) gN (fun i hi=>by omega) (fun i j _ _ h=>by omega)
 have e2:R2=aR.map aW:=by
  apply ext_getElem?;intro i
  by_cases hi:i < aR.length
  ·rw [r2 i hi,bp,(hN i hi).1];rfl
  ·rw [getElem?_eq_none G,getElem?_eq_none zfU]
 rw [e2] at f2;obtain ⟨K3,k3,q3,i3⟩:=i2.rh f2
 have nP:(oset LW A.length (.vec 78 5 (aR.map aW).length (aR.map aW))).take A.length=A:=by
  apply ext_getElem?;intro q;rw [List.getElem?_take];split
  ·rw [bK,eG,ab G,o2 q G (fun i _=>by omega),bD,ff G]
  ·rw [getElem?_eq_none G]
 have i4:=i3.cut (n:=A.length) hm (by rw [nP];exact hA);rw [nP] at i4;exact ⟨K3,k2.trans k3,q3.pc rfl,i4⟩
theorem Wk.wO {m:Nat} {fr:List GV} {Γ:List Ob} (A:List Ob) {aR:List Nd} {h:Value} {ns:List Value} {i o:Nat} {T:TypeId} {cs:List GV} (H:qK aR h ns) (bD:Γ=A++cL aR h ns) (hm:m<=A.length) (hA:uI A.length A=true) (hi:A[i]?=some (.box T cs)) (ho:cs[o]?=some (.v h)) :
  Wk m fr Γ (w6 A.length fr) (oset A i (.box T (bQ cs o (.sl 5 (aR.map aW))))):=fun B K β w l hB hI hF=>by
 obtain ⟨K',hK,hr,bA⟩:=hI.wO H bD G hA;obtain ⟨b,vs,D,X,h3,h4⟩:=bA.ob i _ hi;exact ⟨K',_,bA.swap ⟨b,vs,D,X,bs.bQ (hr.pc rfl) h3 ho,h4⟩,(hF.res).mono hK (dI.refl _)⟩
def Ob.vF:Ob->Bool
 | .vech _ _ _ _=>true
 | .blob _=>true
 | .box _ cs=>rN cs
 | _=>false
theorem Inv.UE {B:Bs} {K:Fz} {β:Bt} {Γ:List Ob} {w:World} (h:Inv B K β Γ w) {aS:List Nat} (hm:∀ j,j < B.m->aS[j]?=some j) {Δ:List Ob} (hl:Δ.length=aS.length) (hn:aS.Nodup)
  (hx:∀ (j:Nat) x,Δ[j]?=some x->x.vF=true/\∀ i,aS[j]?=some i->Γ[i]?=some x):Inv B K (iX β aS) Δ w:=by
 have hb:∀ i b,(iX β aS i).has b->∃ q,aS[i]?=some q/\(β q).has b:=fun i b hi=>by
  unfold iX at hi
  cases hs:aS[i]? with
  | none=>rw [hs] at hi;cases hi
  | some q=>rw [hs] at hi;exact ⟨q,rfl,hi⟩
 refine ⟨h.ext,h.kle,fun i=>?_,h.loc,h.fz,fun i x hi=>?_,fun i hi=>?_,fun i j b hi hj=>?_,fun i b hi=>?_,h.kn,h.tab.step (S:=gL) (Ext.refl w) (fun _ h=>h.elim) (cW.refl K) (fun i b2 X=>?_)⟩
 ·rcases Nat.lt_or_ge i B.m with hi | hi
  ·have:iX β aS i=β i:=by unfold iX;rw [hm i hi]
   rw [this];exact h.ble i
  ·rw [h.loc i hi];trivial
 ·obtain ⟨D,X⟩:=hx i x hi;have au:=(bu hi).1;have hs:aS[i]?=some (aS[i]'G):=ct _
  have mR:iX β aS i=β (aS[i]'G):=by unfold iX;rw [hs]
  cases x with
  | vech E k rows v =>
   obtain ⟨xs,e1,e2,e3,e4,e5⟩:=h.ob _ _ (X _ hs);exact ⟨xs,mR.trans e1,e2,e3.rN e4.flat,e4,e5⟩
  | blob p =>
   obtain ⟨g,e1,e2,e3⟩:=h.ob _ _ (X _ hs);exact ⟨g,mR.trans e1,e2,e3⟩
  | box E cs =>
   obtain ⟨b,vs,e1,e2,e3,e4⟩:=h.ob _ _ (X _ hs);exact ⟨b,vs,mR.trans e1,e2,e3.rN (nS D),e4⟩
  | _=>cases D
 ·unfold iX;rw [getElem?_eq_none G]
 ·exact zbd
 ·obtain ⟨q,D,X⟩:=hb i b hi;exact h.own q b X
 ·obtain ⟨q,h3,h4⟩:=hb i b2 X;exact .inl ⟨q,h4⟩
theorem Ku {P:Program} {fn:Func} {R:GV->List Ob->Prop} {fr:List GV} {Γ:List Ob} {e:Exit} {t u s:Tmp} {T:TypeId} {k:Nat} [hT:Ty P T true k] {i:Nat} {E:TypeId} {cs:List GV} {y z:Value} (n:Nat) (hr:fn.results=#[.cell t T,.tmp u,.tmp s]) (he:e=.normal\/e=.ret) (hg:cP fr t=.loc i 0) (bD:Γ[i]?=some (.box E cs)) (hk:cs.length=k) (hp:rN cs=true) (gR:cP fr u=.v y) (Ph:cP fr s=.v z)
  (ha:∀ x∈Γ.drop n,x.vF=true) (h:R (.tup [.agg cs,.v y,.v z]) (Γ.drop n)):vl P fn 0 R e fr Γ :=
 ⟨he,fun B K β w l hB hI hF=>by
  obtain ⟨b,vs,D,X,h3,h4⟩:=hI.ob i _ bD
  have Ps:nth l t=.pointer (some ⟨b,0,none⟩):=by
   have:=hF.nth t;rw [hg] at this;generalize nth l t=v at this
   cases this with
   | loc _ _ b' bH=>rw [D] at bH;cases bH;rfl
  have jJ:l.toArray.getD t undef=.pointer (some ⟨b,0,none⟩):=by rw [jW,Ps]
  have Dc:=nV (P:=P) (w:=w) (t:=T) (b:=b) (o:=0) (vs:=vs) (k:=k) zgd (fun j v hj=>by
   rw [ed,cell_of_row w b j _ E (0,0) X];simpa using hj)
  have yF:l[t]?.getD undef=.pointer (some ⟨b,0,none⟩):=by simpa using jJ
  have h5:bs K (iX β ((List.range (Γ.length - n)).map (·+n))) vs cs:=h3.rN (nS hp);have hu:nth l u=y:=Rel.eE (by rw [<-gR];exact hF.nth u);have hs:nth l s=z:=Rel.eE (by rw [<-Ph];exact hF.nth s);have HK:(Γ.drop n).length=((List.range (Γ.length - n)).map (·+n)).length/\((List.range (Γ.length - n)).map (·+n)).Nodup /\
   ∀ (j:Nat) x,(Γ.drop n)[j]?=some x->x.vF=true/\∀ i,((List.range (Γ.length - n)).map (·+n))[j]?=some i->Γ[i]?=some x:=by
   refine ⟨by simp,?_,fun j x hj=>⟨ha x (br hj),fun i hi=>?_⟩⟩
   ·unfold List.Nodup;rw [List.pairwise_map]
    exact (List.nodup_range (n:=Γ.length - n)).imp fun bT he=>bT G
   ·rw [List.getElem?_drop] at hj;rw [bp] at hi
    cases hr:(List.range (Γ.length - n))[j]? with
    | none=>rw [hr] at hi;cases hi
    | some q =>
     rw [hr] at hi;cases hi;have:=(List.getElem?_range (by have:=(bu hr).1;simpa using this)).symm.trans hr;cases this;show Γ[j+n]?=some x;rw [Nat.add_comm];exact hj
  refine ⟨.tuple #[.agg vs.toArray,y,z],K,iX β ((List.range (Γ.length - n)).map (·+n)),.tup [.agg cs,.v y,.v z],Γ.drop n,?_,hI.UE (fun j hj=>by rw [hB] at hj;exact absurd hj (Nat.not_lt_zero j)) HK.1 HK.2.1 HK.2.2,?_,h⟩
  ·rw [<-hu,<-hs,<-jW l u,<-jW l s];exact zdX
  ·have hc:bs K (iX β ((List.range (Γ.length - n)).map (·+n))) [.agg vs.toArray,y,z] [.agg cs,.v y,.v z]:=.cons (.agg vs cs h5.1 h5.2) (.cons (.v _) (.cons (.v _) .nil))
   exact .tup [.agg vs.toArray,y,z] _ hc.1 hc.2⟩
theorem Wk.M5 {m:Nat} {fr:List GV} {Γ:List Ob} (hm:m<=Γ.length) (hA:uI Γ.length Γ=true):Wk m fr Γ (w6 Γ.length fr) (Γ++[blob (cL [] (.slice none 0 0) [])]) :=
 (Wk.ln 78 5).trans (Wk.pack Γ (cL [] (.slice none 0 0) []) rfl hm Dw hA)
theorem qK.nil:qK [] (.slice none 0 0) []:=⟨⟨none,0,rfl⟩,rfl,fun i x y h=>by simp at h⟩
def Iq (Γ:List Ob):List Nat->List Ob->Prop
 | [],[]=>True
 | i::r,x::xs=>(Γ[i]?=some x/\x.vF=true)/\Iq Γ r xs
 | _,_=>False
theorem BR {Γ:List Ob}:∀ {aS:List Nat} {Δ:List Ob},Iq Γ aS Δ->Δ.length=aS.length/\∀ (j:Nat) x,Δ[j]?=some x->x.vF=true/\∀ i,aS[j]?=some i->Γ[i]?=some x
 | [],[],_=>⟨rfl,fun j x h=>by simp at h⟩
 | i::r,x::xs,h=>by
  obtain ⟨D,X⟩:=BR h.2;refine ⟨by simp [D],fun j y hj=>?_⟩
  cases j with
  | zero=>cases hj;exact ⟨h.1.2,fun i' hi=>by cases hi;exact h.1.1⟩
  | succ j=>exact X j y zfI
 | [],_::_,h=>h.elim
 | _::_,[],h=>h.elim
theorem TH {P:Program} {fn:Func} {m:Nat} {R:GV->List Ob->Prop} {fr:List GV} {Γ:List Ob} {e:Exit} {t:Tmp} {T:TypeId} {k:Nat} [hT:Ty P T true k] {i:Nat} {E:TypeId} {cs:List GV} (aS:List Nat) (Δ:List Ob) (hr:fn.results=#[.cell t T]) (he:e=.normal\/e=.ret) (hg:cP fr t=.loc i 0) (bD:Γ[i]?=some (.box E cs)) (hk:cs.length=k) (hp:rN cs=true)
  (hs:aS.Nodup) (hm:aS.take m=List.range m) (hx:Iq Γ aS Δ) (h:R (.agg cs) Δ):vl P fn m R e fr Γ :=
 ⟨he,fun B K β w l hB hI hF=>by
  obtain ⟨b,vs,D,X,h3,h4⟩:=hI.ob i _ bD
  have Ps:nth l t=.pointer (some ⟨b,0,none⟩):=by
   have:=hF.nth t;rw [hg] at this;generalize nth l t=v at this
   cases this with
   | loc _ _ b' bH=>rw [D] at bH;cases bH;rfl
  have jJ:l.toArray.getD t undef=.pointer (some ⟨b,0,none⟩):=by rw [jW,Ps]
  have Dc:=nV (P:=P) (w:=w) (t:=T) (b:=b) (o:=0) (vs:=vs) (k:=k) zgd (fun j v hj=>by
   rw [ed,cell_of_row w b j _ E (0,0) X];simpa using hj)
  have yF:l[t]?.getD undef=.pointer (some ⟨b,0,none⟩):=by simpa using jJ
  have h5:bs K (iX β aS) vs cs:=h3.rN (nS hp);obtain ⟨x1,x2⟩:=BR hx;refine ⟨.agg vs.toArray,K,iX β aS,.agg cs,Δ,?_,hI.UE (fun j hj=>?_) x1 hs x2,.agg vs cs h5.1 h5.2,h⟩
  ·exact zdX
  ·rw [hB] at hj
   have hj2:(aS.take m)[j]?=some j:=by rw [hm];exact List.getElem?_range hj
   rw [List.getElem?_take,ae hj] at hj2
   exact hj2⟩
def Nc (n:Nat) (r:List GV):Bool:=match r with
 | [.v (.string b)]=>Nat.ble b.data.size n
 | _=>false
theorem Wh {n m:Nat} {rows:List (List GV)} (h:rows.all (Nc n)=true) (hm:m < rows.length):∃ s:ah,rows[m]?=some [.v (sv s)]/\s.length<=n:=by
 have hx:rows[m]?=some rows[m]:=ct hm;have D:=gP.1 h rows[m] (br hx);rw [hx];generalize rows[m]=r at *;unfold Nc at D;split at D
 ·rename_i b;refine ⟨b.data.toList,?_,by simpa using D⟩;rw [<-aam]
 ·cases D
section
variable {P:Program} {m:Nat} {Q:dW} {fr:List GV} {Γ:List Ob} {ops:Array Oper} {rest:List Oper} {ty:TypeId} {pos:String} {af:Array Edge}
theorem zj {g:GV}:∀ {fr:List GV} {t:Nat},ku fr t=true->cP (bQ fr t g) t=g
 | [],t,h=>by cases h
 | x::fr,0,h=>rfl
 | x::fr,t+1,h=>zj (fr:=fr) (t:=t) h
theorem GL.Ng {x y:Operand} {d1 d2:Tmp} {t e t2:TypeId} [hT:oK P t e 1] [hT2:Ty P t2 false 1] {QM:TypeId} {Is:String} {Fh:Array Edge} (n:Nat) {q:Nat} {rows:List (List GV)} {kk:IntKind} (hx:bf fr x=.sl 1 rows) (hy:bf fr y=.v (.int kk q)) (hr:rows.all (Nc n)=true) (hq:q < rows.length) (mu:ku fr d1=true)
  (h:∀ s:ah,s.length<=n->GL P m ops Q rest (bM (bM fr (some d1) (.box [.v (sv s)] 0)) (some d2) (.v (sv s))) Γ) :
  GL P m ops Q (⟨some d1,.indexAddr t x y,ty,pos,af,none⟩::⟨some d2,.load t2 (.tmp d1),QM,Is,Fh,none⟩::rest) fr Γ:=by
 obtain ⟨s,hs,hl⟩:=Wh hr hq;refine GL.q (YG.gZ hx hy hs) ?_;refine GL.q (YG.Yf (cs:=[.v (sv s)]) (o:=0) ?_ rfl) (h s hl);exact zj mu
end
theorem YG.jb {P:Program} {fr:List GV} {Γ:List Ob} {x y:Operand} {t e:TypeId} {k:Nat} [hT:oK P t e k] (i:Nat) {v:Value} {kk:IntKind} {j E n:Nat} {rows:List (List GV)} (hx:bf fr x=.v v) (hy:bf fr y=.v (.int kk j)) (bD:Γ[i]?=some (.vech E k rows v)) (hn:rows.length=n) (hj:j < n):YG P (.indexAddr t x y) fr Γ (.vp i n k j 0):=by
 subst hn;exact YG.aQ i hx hy bD hj
theorem YG.Us {P:Program} {fr:List GV} {Γ:List Ob} {x y:Operand} {t e:TypeId} {k:Nat} [hT:oK P t e k] (i j:Nat) {v:Value} {kk:IntKind} {z:Int} {E n:Nat} {rows:List (List GV)} (hx:bf fr x=.v v) (hy:bf fr y=.v (.int kk z)) (hz:z=(j:Int)) (bD:Γ[i]?=some (.vech E k rows v)) (hn:rows.length=n) (hj:j < n):YG P (.indexAddr t x y) fr Γ (.vp i n k j 0):=by
 subst hz;exact YG.jb i hx hy bD hn hj
end Go.Xg
set_option maxHeartbeats 4000000
namespace Go.Xg
open Go.RowKit Go.Xw Go.Proofs Tryz Go.Sp Go.Im
open Go.Xp (Ar jc)
attribute [local irreducible] GW GL GO YG GC GA bg bj
def Wv (p:RS) (gl:List ah) (tV:List Ar) (hf hn:Value) (g:GV) (Δ:List Ob):Prop :=
 ∃ q gl' ars' kU ha',p.to q/\Hd gl'.length kU/\Hd ars'.length ha'/\(q.code=0->p.i < q.i/\∀ fs aR,PB ⟨gl,tV,fs,aR⟩ p.i->PB ⟨gl',ars',fs,aR⟩ q.i) /\
  g=.agg [.v kU,.v ha',.v hf,.v hn]/\Δ=[bP q,.vech 9 1 (bW gl') kU,.vech 98 2 (ars'.map bb) ha']
theorem Du {p:RS} {s:ah} (hs:s≠[]) (h:(p.aL s).code=0):p.i < (p.aL s).i:=by
 rw [(sZ hs h).1];exact Nat.lt_succ_self _
theorem Sm (p:RS) (hp:p.ok) (hb:SB p) (gl:List ah) (tV:List Ar) (hg ha hf hn:Value) (Hg:Hd gl.length hg) (Ha:Hd tV.length ha) {nf nn:Nat} (Hf:Hd nf hf) (Hn:Hd nn hn) (lI:gl.length<=1000000) (Xo:tV.length<=1000000) :
  GC prog 160 [.loc 0 0,.agg [.v hg,.v ha,.v hf,.v hn]] [bP p,.vech 9 1 (bW gl) hg,.vech 98 2 (tV.map bb) ha] (Wv p gl tV hf hn):=by
 obtain ⟨ag,cg,rfl⟩:=Hg;obtain ⟨aa,ca,rfl⟩:=Ha;obtain ⟨af,cf,rfl⟩:=Hf;obtain ⟨an,cn,rfl⟩:=Hn;have acb:(bW gl).length=gl.length:=cj _;have RV:(tV.map bb).length=tV.length:=cj _;have m1:=cJ p jc hp aC;have t1:=bG hp (s:=jc) aC;have o1:=t1.ok hp;have i1:(p.aL jc).code=0->p.i < (p.aL jc).i:=Du aC;generalize p.aL jc=p1 at *;have m2:=pY p1 o1;have t2:=t1.trans (eO o1);have o2:=t2.ok hp;have nl:=pZ p1
 have ne:¬ p1.code=0->¬ p1.name.2.code=0:=fun h=>by rw [Cx h];exact h
 have le:=(eO o1).2.2.2;generalize p1.name=nm at *;obtain ⟨s,p2⟩:=nm;simp only at m2 t2 o2 nl ne le;have m3:=c9 p2 0 o2 aC
 by_cases hs:p2.sign 0=[91]
 ·have od:(p2.sign 0==[91])=true:=by rw [hs];rfl
  have au:=dk hs aC;have hz2:=au.2;have au:=au.1;rw [Nat.add_zero] at au;have c8:=o2.2;have t3:=t2.trans (cE au);have o3:=t3.ok hp;have vm:=hb.to t3
  have li:p2.next.i=p2.i+1:=rfl
  have ls:p2.next.l=p2.l:=rfl
  have lc:p2.next.code=p2.code:=rfl
  have m4:GF prog 163 [.loc 0 0] [bP p2.next] (.v (ii p2.next.place)) [bP p2.next]:=ky _ o3;have t4:=t3.trans (LQ o3);have o4:=t4.ok hp;have hz:=S7 vm;have Yh:=(LQ o3).2.2.2
  have fin:∀ (z:Int) (p4:RS),ri p2.next=(z,p4)->GF prog 216 [.loc 0 0,.v (sv [93])] [bP p4] (.tup []) [bP (p4.aL [93])]/\GF prog 216 [.loc 0 0,.v (sv [59])] [bP (p4.aL [93])] (.tup []) [bP ((p4.aL [93]).aL [59])] /\
    ∀ a c n,n=tV.length->Wv p gl tV (.slice af nf cf) (.slice an nn cn) (.agg [.v (.slice ag gl.length cg),.v (.slice a (n+1) c),.v (.slice af nf cf),.v (.slice an nn cn)]) [bP ((p4.aL [93]).aL [59]),.vech 9 1 (bW gl) (.slice ag gl.length cg),.vech 98 2 (tV.map bb++[[.v (sv s),.v (ii z)]]) (.slice a (n+1) c)]:=fun z p4 e=>by
   rw [e] at t4 o4 hz Yh;simp only at t4 o4 hz Yh;have t5:=t4.trans (bG o4 (s:=[93]) aC);have o5:=t5.ok hp;have t6:=t5.trans (bG o5 (s:=[59]) aC);refine ⟨cJ _ _ o4 aC,cJ _ _ o5 aC,?_⟩;rintro a c n rfl;refine ⟨_,gl,tV++[⟨s,z⟩],_,_,t6,⟨_,_,rfl⟩,⟨a,c,by simp⟩,fun hc=>?_,rfl,by rw [mo];rfl⟩;have a1:=Du aC hc;have a2:=(bG o4 (s:=[93]) aC).2.2.2;have a3:=(bG o5 (s:=[59]) aC).2.2.2
   have kH:p.i < ((p4.aL [93]).aL [59]).i:=by have:=t1.2.2.2;omega
   exact ⟨kH,fun fs aR h=>h.arr ⟨s,z⟩ nl hz kH⟩
  clear t4 o4 hz Yh
  cases ht:p2.l[p2.i+1]? with
  | none =>
   have kF:=oH ht
   have hd:decide (((p2.i+1:Nat):Int) < ((p2.l.map cZ).length:Int))=false:=by simp;omega
   have e:ri p2.next=(0,p2.next.fail 7 p2.next.place):=by unfold ri;rw [show p2.next.l[p2.next.i]?=none from ht]
   exact zar
  | some t =>
   have acn:=(bu ht).1
   have hd:decide (((p2.i+1:Nat):Int) < ((p2.l.map cZ).length:Int))=true:=by simp;omega
   have hr:=lN ht
   by_cases hk:t.kind=1
   ·have fk:(t.kind==1)=true:=by simpa using hk
    have e:ri p2.next=(t.n,p2.next.next):=by unfold ri;rw [show p2.next.l[p2.next.i]?=some t from ht];simp only;rw [ae hk]
    obtain ⟨m5,m6,fin⟩:=fin _ _ e;refine ai func160 ntmps160 ?_;refine V [0] m1 ?_;refine V [0] m2 ?_;refine V [0] m3 ?_;refine aM (ay 0 24 .nil) ?_;refine bq ?_;refine aM (ay 0 12 .nil) ?_;refine bq ?_;refine V [0] m5 ?_;refine GL.hO 2 rfl rfl rfl rfl rfl rfl rfl rfl az kO ?_;intro a c;refine za2 ?_;refine V [0] m6 ?_;refine iZ ?_;exact fin _ _ _ RV
   ·have fk:(t.kind==1)=false:=by simpa using hk
    have e:ri p2.next=(0,p2.next.fail 7 p2.next.place):=by unfold ri;rw [show p2.next.l[p2.next.i]?=some t from ht];simp only;rw [ab hk]
    exact zar
 ·have od:(p2.sign 0==[91])=false:=by
   cases h:(p2.sign 0==[91]) with
   | false=>rfl
   | true=>exact absurd (eq_of_beq h) hs
  have m4:=cJ p2 [59] o2 aC;have t4:=t2.trans (bG o2 (s:=[59]) aC);refine ai func160 ntmps160 ?_;refine V [0] m1 ?_;refine V [0] m2 ?_;refine V [0] m3 ?_;refine GL.hO 1 rfl rfl rfl rfl rfl rfl rfl rfl az kO ?_;intro a c;refine za2 ?_;refine V [0] m4 ?_;refine iZ ?_;refine ⟨_,gl++[s],tV,_,_,t4,⟨a,c,by simp [bW]⟩,⟨_,_,rfl⟩,fun hc=>?_,rfl,by unfold bW;rw [mo];rfl⟩;have a1:=Du aC hc;have a2:=t2.2.2.2
  have kH:p.i < (p2.aL [59]).i:=by omega
  exact ⟨kH,fun fs aR h=>h.aa4 s nl kH⟩
open GV (U)
open Go.Xp (Nd T bc iO jv)
def FnR (p:RS) (fns:List Go.Sp.Fn) (aR:List Nd) (hg ha:Value) (g:GV) (Δ:List Ob):Prop :=
 ∃ q fns' nds' hf' xG o8,p.to q/\Hd fns'.length hf'/\qK nds' xG o8/\(q.code=0->p.i < q.i/\∀ gl tV,PB ⟨gl,tV,fns,aR⟩ p.i->PB ⟨gl,tV,fns',nds'⟩ q.i) /\
  g=.agg [.v hg,.v ha,.v hf',.v xG]/\Δ=[bP q,.vech 65 3 (fns'.map ax) hf',blob (cL nds' xG o8)]
theorem Vx (p:RS) (hp:p.ok) (hb:SB p) (h6:p.l.length<=6000) (fns:List Go.Sp.Fn) (aR:List Nd) (hg ha hf hn:Value) (ns:List Value) {ng na:Nat} (Hg:Hd ng hg) (Ha:Hd na ha) (Hf:Hd fns.length hf) (Hn:qK aR hn ns) (lV:fns.length<=1000000) (sH:aR.length<=1000000) :
  GC prog 161 [.loc 0 0,.agg [.v hg,.v ha,.v hf,.v hn]] [bP p,.vech 65 3 (fns.map ax) hf,blob (cL aR hn ns)] (FnR p fns aR hg ha):=by
 obtain ⟨ag,cg,rfl⟩:=Hg;obtain ⟨aa,ca,rfl⟩:=Ha;obtain ⟨af,cf,rfl⟩:=Hf;have abk:(fns.map ax).length=fns.length:=cj _
 have aa9:=fun (t:T) (h:bc t<=1000000)=>GC.blob (Sn (bc t) t (aH _) aR hn ns Hn G) (fun g Δ hR=>by
  obtain ⟨h',o8,-,rfl,rfl⟩:=hR
  exact ⟨Dw,_,rfl⟩)
 obtain ⟨⟨an,cn,rfl⟩,Hn2,Hn3⟩:=id Hn;have m1:=cJ p jv hp aC;have t1:=bG hp (s:=jv) aC;have o1:=t1.ok hp;have i1:(p.aL jv).code=0->p.i < (p.aL jv).i:=Du aC;generalize p.aL jv=p1 at *;have m2:=pY p1 o1;have t2:=t1.trans (eO o1);have o2:=t2.ok hp;have nl:=pZ p1
 have ne:¬ p1.code=0->¬ p1.name.2.code=0:=fun h=>by rw [Cx h];exact h
 have le2:=(eO o1).2.2.2;generalize p1.name=nm at *;obtain ⟨s,p2⟩:=nm;simp only at m2 t2 o2 nl ne le2;have m3:=cJ p2 [40] o2 aC;have t3:=t2.trans (bG o2 (s:=[40]) aC);have o3:=t3.ok hp
 have Yr:¬ p1.code=0->¬ (p2.aL [40]).code=0:=fun h=>Ol aC (ne h)
 have le3:=(bG o2 (s:=[40]) aC).2.2.2;generalize p2.aL [40]=p3 at *;have m4:=c9 p3 0 o3 aC;refine ai func161 ntmps161 ?_;refine V [0] m1 ?_;refine GW.join (fun fr Γ=>fr=[.loc 0 0,U,U,.loc 3 0,.loc 4 0,.loc 5 0,U,U,U,U,U,U,U,U,U,U,U,U,U,U,U,U,U,U,U,U,U,U,U,U,U,U,U,U,U,U,U,U,U,U,U,U,U,U,U,U,U,U,U,U,U,U,U,U,U,U,U,U,U,U,U,U,U,U,U]/\Γ=[bP p2,.vech 65 3 (fns.map ax) (.slice af fns.length cf),blob (cL aR (.slice an aR.length cn) ns),.box 28 [.v (.slice ag ng cg),.v (.slice aa na ca),.v (.slice af fns.length cf),.v (.slice an aR.length cn)],.box 28 [.v (.slice none 0 0),.v (.slice none 0 0),.v (.slice none 0 0),.v (.slice none 0 0)],.box 65 [.v (sv s),.v (.slice none 0 0),.v (ii (aR.length:Nat))]]) ?_ ?_
 ·refine aM (.q 0 (ay 2 3 (.f 1 (.q 5 (.a 6 (.a 7 .nil))) 6 (.a 1 (.q 5 (.a 7 .nil)))))) ?_;refine ak ?_;refine GO.fork ?_ ?_
  ·refine aB [0] m2 ?_;exact jd
  ·refine OA rfl rfl (GL.alloc rfl ?_);refine dM ?_;refine ak ?_;refine aB [0] m2 ?_;exact jd
 rintro _ _ ⟨rfl,rfl⟩;refine I ?_;refine V [0] m3 ?_;refine GL.wk (Wk.ln 9 1) ?_;simp only [cons_append,nil_append];refine V [0] m4 ?_
 refine GW.join (fun fr Γ=>∃ q acc a c,fr=[.loc 0 0,U,U,.loc 3 0,.loc 4 0,.loc 5 0,U,U,U,U,U,U,U,U,U,U,U,U,U,U,U,U,U,U,U,U,U,U,U,U,U,U,U,U,U,U,U,U,U,U,U,U,U,U,U,U,U,U,U,U,U,U,U,U,U,U,U,U,U,U,U,U,U,U,U]/\Γ=[bP q,.vech 65 3 (fns.map ax) (.slice af fns.length cf),blob (cL aR (.slice an aR.length cn) ns),.box 28 [.v (.slice ag ng cg),.v (.slice aa na ca),.v (.slice af fns.length cf),.v (.slice an aR.length cn)],.box 28 [.v (.slice none 0 0),.v (.slice none 0 0),.v (.slice none 0 0),.v (.slice none 0 0)],.box 65 [.v (sv s),.v (.slice a acc.length c),.v (ii (aR.length:Nat))],.vech 9 1 (bW acc) (.slice a acc.length c)] /\
  p3.to q/\acc.length+p3.i<=q.i+1/\(∀ s∈acc,s.length<=12)/\(¬ p1.code=0->¬ q.code=0)) ?_ ?_
 ·by_cases hs:p3.sign 0=[41]
  ·have od:(!(p3.sign 0==[41]))=false:=by rw [hs];rfl
   refine I ?_;exact ⟨_,_,Wk.aJ ar,p3,[],none,0,rfl,rfl,kh o3,by simp,fun s h=>zfA,Yr⟩
  ·have od:(!(p3.sign 0==[41]))=true:=by simpa using hs
   have m5:=pY p3 o3;have t5:=eO o3;have o5:=t5.ok o3;have nl5:=pZ p3
   have ne5:¬ p1.code=0->¬ p3.name.2.code=0:=fun h=>by rw [Cx (Yr h)];exact Yr h
   generalize p3.name=nm at *;obtain ⟨s5,p5⟩:=nm;simp only at m5 t5 o5 nl5 ne5;refine I ?_;have wy:([]:List (List GV)).length=0:=rfl;refine zbB ?_;refine aB [0] m5 ?_;refine zau ?_;refine OA rfl rfl (GL.pk 6 (news:=[[.v (sv s5)]]) rfl rfl rfl az rfl rfl (by refine ⟨?_,?_⟩;(· show _+1<=_;omega);(· show (_+1) * _<=_;omega)) ?_);intro a c;refine zbI ?_
   refine GW.loop (fun x:Nat=>6000 - x) (fun x fr Γ=>∃ q acc a c,fr=[.loc 0 0,U,U,.loc 3 0,.loc 4 0,.loc 5 0,U,U,U,U,U,U,U,U,U,U,U,U,U,U,U,U,U,U,U,U,U,U,U,U,U,U,U,U,U,U,U,U,U,U,U,U,U,U,U,U,U,U,U,U,U,U,U,U,U,U,U,U,U,U,U,U,U,U,U]/\Γ=[bP q,.vech 65 3 (fns.map ax) (.slice af fns.length cf),blob (cL aR (.slice an aR.length cn) ns),.box 28 [.v (.slice ag ng cg),.v (.slice aa na ca),.v (.slice af fns.length cf),.v (.slice an aR.length cn)],.box 28 [.v (.slice none 0 0),.v (.slice none 0 0),.v (.slice none 0 0),.v (.slice none 0 0)],.box 65 [.v (sv s),.v (.slice a acc.length c),.v (ii (aR.length:Nat))],.vech 9 1 (bW acc) (.slice a acc.length c)] /\
    p3.to q/\acc.length+p3.i<=q.i+1/\(∀ s∈acc,s.length<=12)/\(¬ p1.code=0->¬ q.code=0)/\x=q.i) p5.i ?_ ?_
   ·exact ⟨_,_,(Wk.cut (n:=7) (dP rfl) rfl).trans (Wk.aJ ar),p5,[s5],a,c,rfl,rfl,t5,by have:=t5.2.2.2;simp only [length_cons,length_nil];omega,fun s h=>by rw [mem_singleton] at h;subst h;exact nl5,ne5,rfl⟩
   ·rintro _ _ _ ⟨q,acc,a,c,rfl,rfl,tq,lF,nN,bT,rfl⟩;have oq:=tq.ok o3;have m6:=c9 q 0 oq aC
    have qy:q.l.length<=6000:=by rw [tq.1,t3.1];exact h6
    have oq1:=oq.1;have rG:(bW acc).length=acc.length:=cj _
    by_cases hc:q.sign 0=[44]
    ·have dw:(q.sign 0==[44])=true:=by rw [hc];rfl
     have au:=dk hc aC;have XT:=au.2;have au:=au.1;rw [Nat.add_zero] at au;have tn:=cE au;have on:=tn.ok oq
     have m7:GF prog 217 [.loc 0 0] [bP q.next] (.v (sv q.next.name.1)) [bP q.next.name.2]:=pY q.next on
     have t7:=tq.trans (tn.trans (eO on))
     have nl7:=pZ q.next
     have le7:=(eO on).2.2.2
     have Ud:q.next.i=q.i+1:=rfl
     have uC:=(t7.ok o3).1
     have qx:q.next.name.2.l.length<=6000:=by rw [t7.1,t3.1];exact h6
     have lW:p1.code=0:=by
      cases Int.decEq p1.code 0 with
      | isTrue h=>exact h
      | isFalse h=>exact absurd XT (bT h)
     generalize q.next.name=nm at *
     obtain ⟨s7,p7⟩:=nm;simp only at m7 t7 nl7 le7 uC qx;refine I ?_;refine V [0] m6 ?_;refine zbB ?_;refine aB [0] m7 ?_;refine zau ?_;refine OA rfl rfl (GL.pk 6 (news:=[[.v (sv s7)]]) rfl rfl rfl az rfl rfl (by refine ⟨?_,?_⟩;(· show _+1<=_;omega);(· show (_+1) * _<=_;omega)) ?_);intro a2 c2;refine zbI ?_
     exact ⟨p7.i,⟨_,_,(Wk.cut (n:=7) (dP rfl) rfl).trans (Wk.aJ ar),p7,acc++[s7],a2,c2,rfl,by simp [bW],t7,by rw [aO,length_singleton];omega,fun s h=>by
      rcases nt h with h | h
      ·exact nN s h
      ·rw [mem_singleton] at h;subst h;exact nl7,fun h=>absurd lW h,rfl⟩,by omega⟩
    ·have dw:(q.sign 0==[44])=false:=by
      cases h:(q.sign 0==[44]) with
      | false=>rfl
      | true=>exact absurd (eq_of_beq h) hc
     refine I ?_;refine V [0] m6 ?_;refine jF ?_;exact ⟨_,_,Wk.aJ ar,q,acc,a,c,rfl,rfl,tq,lF,nN,bT⟩
 ·rintro _ _ ⟨q,acc,a,c,rfl,rfl,tq,lF,nN,bT⟩;have oq:=tq.ok o3;have m5:=cJ q [41] oq aC;have t5:=tq.trans (bG oq (s:=[41]) aC);have o5:=t5.ok o3;have YZ:=t3.trans t5;have sb5:=hb.to YZ
  have mk:(q.aL [41]).code=0->q.code=0/\(q.aL [41]).i=q.i+1:=fun h=>by
   obtain ⟨D,X,-⟩:=sZ aC h;exact ⟨X,by rw [D];rfl⟩
  generalize q.aL [41]=r at *
  have hr6:r.l.length<=6000:=by rw [YZ.1];exact h6
  obtain ⟨t,v,hS⟩:=(P9 (5 * r.left+4)).1 1 r o5 (aH _)
  have FH:r.left<=6000:=by unfold RS.left;omega
  have m6:=(sds (5 * r.left+4)).block 1 r t v o5 G hS;have t6:=((rf (5 * r.left+4)).1 _ _ _ _ o5 (fun a d' h=>by cases h) hS);obtain ⟨bt,bz,bi⟩:=(Ux (5 * r.left+4)).1 1 r t v o5 sb5 hS;have tv:=YZ.trans t6;have ov:=tv.ok hp
  have hv6:v.l.length<=6000:=by rw [tv.1];exact h6
  have uG:=ov.1;have hL:=aa9 t G
  have back:v.code=0->r.code=0:=fun h=>by
   cases Int.decEq r.code 0 with
   | isTrue h=>exact h
   | isFalse hr =>
    have:=H7 hr (g:=5 * r.left+4) (d:=1) G;rw [this] at hS;cases hS;exact h
  by_cases hc:v.code=0
  ·have dw:(v.code==0)=true:=by simpa using hc
   refine I ?_;refine V [0] m5 ?_;refine V [0] m6 ?_;refine bU [2] hL ?_;rintro _ _ ⟨_,⟨xG,o8,Hn',rfl,rfl⟩,rfl⟩;obtain ⟨⟨WB,WM,rfl⟩,-,-⟩:=id Hn';refine cV ?_;refine GL.wk (Wk.tM (i:=5) (o:=1) (j:=6) rfl rfl rfl rfl) ?_;refine cY ?_;refine zah ?_;intro a3 c3;refine za2 ?_;refine iZ ?_;have hr:=back hc;obtain ⟨XT,vz⟩:=mk hr
   have lW:p1.code=0:=by
    cases Int.decEq p1.code 0 with
    | isTrue h=>exact h
    | isFalse h=>exact absurd XT (bT h)
   have hi:=i1 lW
   have kH:p.i < v.i:=by omega
   refine ⟨v,fns++[⟨s,acc,aR.length⟩],aR++iO aR.length t,_,_,o8,tv,⟨a3,c3,by rw [abk];simp⟩,Hn',fun _=>⟨kH,fun gl tV h=>h.fn ⟨s,acc,aR.length⟩ t nl nN bt acc.length (v.i - r.i) (aH _) bz G⟩,rfl,by rw [mo];rfl⟩
  ·have dw:(v.code==0)=false:=by simpa using hc
   refine I ?_;refine V [0] m5 ?_;refine V [0] m6 ?_;refine iZ ?_;exact ⟨v,fns,aR,_,_,ns,tv,⟨_,_,rfl⟩,Hn,fun h=>absurd h hc,rfl,rfl⟩
def sq (p:Src) (hg ha hf hn:Value) (ns:List Value):List Ob :=
 [.vech 9 1 (bW p.globals) hg,.vech 98 2 (p.arrays.map bb) ha,.vech 65 3 (p.fns.map ax) hf,blob (cL p.nodes hn ns)]
structure pI (p:Src) (hg ha hf hn:Value) (ns:List Value):Prop where
 g:Hd p.globals.length hg
 a:Hd p.arrays.length ha
 f:Hd p.fns.length hf
 n:qK p.nodes hn ns
theorem LG:pI FZ (.slice none 0 0) (.slice none 0 0) (.slice none 0 0) (.slice none 0 0) []:=⟨⟨none,0,rfl⟩,⟨none,0,rfl⟩,⟨none,0,rfl⟩,qK.nil⟩
def Rk (g:GV) (Δ:List Ob):Prop:=∃ p hg ha hf hn ns c z,pI p hg ha hf hn ns/\cQ p<=600000/\pj p/\g=.tup [.agg [.v hg,.v ha,.v hf,.v hn],.v (ii c),.v (ii z)]/\Δ=sq p hg ha hf hn ns
theorem VS (c z:Int):Rk (.tup [.agg [.v (.slice none 0 0),.v (.slice none 0 0),.v (.slice none 0 0),.v (.slice none 0 0)],.v (ii c),.v (ii z)]) (sq FZ (.slice none 0 0) (.slice none 0 0) (.slice none 0 0) (.slice none 0 0) []) :=
 ⟨FZ,_,_,_,_,[],c,z,LG,aX _,PB.no.num,rfl,rfl⟩
theorem IL {p:Src} {hg ha hf hn:Value} {ns:List Value}:∀ x∈sq p hg ha hf hn ns,x.vF=true:=fun x hx=>by
 unfold sq at hx;simp only [List.mem_cons,not_mem_nil,or_false] at hx
 rcases hx with rfl | rfl | rfl | rfl <;> rfl
theorem GW.M8 {P:Program} {fn:Func} {Q:dW} {t u s:Tmp} {T:TypeId} [hT:Ty P T true 4] {i:Nat} {E:TypeId} {c z:Int} {fr:List GV} {Γ:List Ob} (hr:fn.results=#[.cell t T,.tmp u,.tmp s]) (hg:cP (w6 (Γ.length+3) fr) t=.loc i 0) (hi:i < Γ.length) (bD:Γ[i]?=some (.box E [.v (.slice none 0 0),.v (.slice none 0 0),.v (.slice none 0 0),.v (.slice none 0 0)])) (gR:cP (w6 (Γ.length+3) fr) u=.v (ii c)) (Ph:cP (w6 (Γ.length+3) fr) s=.v (ii z))
  (hA:uI (Γ.length+3) Γ=true) (hQ:∀ fr Γ,vl P fn 0 Rk .ret fr Γ->Q .ret fr Γ):GW P 0 .ret Q fr Γ:=by
 refine GW.wk (Wk.ln 9 1) ?_;refine GW.wk (Wk.ln 98 2) ?_;refine GW.wk (Wk.ln 65 3) ?_;simp only [fP,cons_append,nil_append]
 have hl:(Γ++[Ob.vech 9 1 [] (.slice none 0 0),.vech 98 2 [] (.slice none 0 0),.vech 65 3 [] (.slice none 0 0)]).length=Γ.length+3:=by simp
 refine GW.wk (Wk.M5 (aX _) (by rw [hl];show sM (below _) (Γ++_)=true;rw [Lq,show sM (below (Γ.length+3)) Γ=true from hA];rfl)) ?_;rw [hl];refine GW.ret ?_;refine hQ _ _ ?_;refine Ku (k:=4) Γ.length hr (.inr rfl) hg (by rw [fP,ff hi];exact bD) rfl rfl gR Ph ?_ ?_
 ·rw [fP,List.drop_left];exact IL (p:=FZ)
 ·rw [fP,List.drop_left];exact VS c z
theorem DY (s:ah) (hs:s.length<=1000000000000):GC prog 95 [.v (sv s)] [] Rk:=by
 refine ai func95 ntmps95 ?_;refine bU [] (Zf s hs) ?_;rintro _ _ ⟨rfl,l,c,z,rfl,hL⟩;refine cV ?_
 by_cases hc:c=0
 ·subst hc;obtain ⟨KR,Pq,KD⟩:=hL rfl;have BJ:(l.map cZ).length=l.length:=cj _;refine I ?_
  refine GW.A4 (fun fr Γ=>∃ q p hg ha hf hn ns,fr=[U,U,.loc 0 0,U,U,U,U,U,.loc 1 0,.loc 2 0,U,U,U,U,U,U,U,U,U,U,U,U,U,U,U,U,U,U,U,U,U,U,U,U,U,U,U,U,U,U,U,U,U,U,U,U,U,U,U,U,U,U,U,U,U,U,U,U,U,U,U,U,U,U,U,U,U,U,U,U,U,U,U,U,U,U,U]/\Γ=.box 28 [.v (.slice none 0 0),.v (.slice none 0 0),.v (.slice none 0 0),.v (.slice none 0 0)]::bP q::.box 28 [.v hg,.v ha,.v hf,.v hn]::sq p hg ha hf hn ns /\
   pI p hg ha hf hn ns/\RS.to ⟨l,0,s.length,0,0⟩ q/\(q.code=0->PB p q.i)) ?_ ?_
  ·refine GW.loop (fun x:Nat=>x) (fun x fr Γ=>∃ q p hg ha hf hn ns,fr=[U,U,.loc 0 0,U,U,Go.Xg.gW l,U,U,.loc 1 0,.loc 2 0,U,U,U,U,U,U,U,U,U,U,U,U,U,U,U,U,U,U,U,U,U,U,U,U,U,U,U,U,U,U,U,U,U,U,U,U,U,U,U,U,U,U,U,U,U,U,U,U,U,U,U,U,U,U,U,U,U,U,U,U,U,U,U,U,U,U,U]/\Γ=.box 28 [.v (.slice none 0 0),.v (.slice none 0 0),.v (.slice none 0 0),.v (.slice none 0 0)]::bP q::.box 28 [.v hg,.v ha,.v hf,.v hn]::sq p hg ha hf hn ns /\
    pI p hg ha hf hn ns/\RS.to ⟨l,0,s.length,0,0⟩ q/\(q.code=0->PB p q.i)/\x=if q.code=0 then 6001 - q.i else 0) 6001 ?_ ?_
   ·exact ⟨_,_,((((Wk.ln 9 1).trans (Wk.ln 98 2)).trans (Wk.ln 65 3)).trans (Wk.M5 (aX _) rfl)).trans (Wk.aJ ar),⟨l,0,s.length,0,0⟩,FZ,_,_,_,_,[],rfl,rfl,LG,kh ⟨aX _,by show l.length<=_;omega⟩,fun _=>PB.no,rfl⟩
   ·rintro x _ _ ⟨q,p,hg,ha,hf,hn,ns,rfl,rfl,HG,tq,zk,hx⟩;have o0:RS.ok ⟨l,0,s.length,0,0⟩:=⟨aX _,by show l.length<=_;omega⟩;have oq:=tq.ok o0;have sb0:SB ⟨l,0,s.length,0,0⟩:=⟨KD,by show (0:Int)<=(s.length:Int)/\(s.length:Int)<=6000;omega⟩;have sbq:=sb0.to tq;have qy:q.l=l:=tq.1
    have Uf:q.i<=l.length:=by have:=oq.1;rw [qy] at this;exact this
    unfold sq;obtain ⟨Hg,Ha,Hf,Hn⟩:=HG;obtain ⟨ag,cg,rfl⟩:=id Hg;obtain ⟨aa,ca,rfl⟩:=id Ha;obtain ⟨af,cf,rfl⟩:=id Hf;obtain ⟨⟨an,cn,rfl⟩,Hn2,Hn3⟩:=id Hn
    by_cases hc:q.code=0
    ·have dw:(q.code==0)=true:=by simpa using hc
     rw [ae hc] at hx
     by_cases hi:q.i < l.length
     ·have hd:decide ((q.i:Int) < ((l.map cZ).length:Int))=true:=by rw [BJ];simpa using hi
      have m1:=c9 q 0 oq aC;have zk:=zk hc;have hw:=zk.w
      have hlen:p.globals.length<=1000000/\p.arrays.length<=1000000/\p.fns.length<=1000000/\p.nodes.length<=1000000:=by
       have:=vU p;omega
      by_cases D:q.sign 0=jc
      ·have dp:(q.sign 0==[105,110,116])=true:=by rw [D];rfl
       refine I ?_;refine V [1] m1 ?_;refine bU [1,3,4] (Sm q oq sbq p.globals p.arrays _ _ _ _ Hg Ha Hf Hn.head hlen.1 hlen.2.1) ?_;rintro _ _ ⟨q2,gl2,aax,_,_,t2,⟨ag2,cg2,rfl⟩,⟨aa2,ca2,rfl⟩,O8,rfl,rfl⟩;refine cV ?_;refine za1 ?_;refine ⟨if q2.code=0 then 6001 - q2.i else 0,⟨_,_,Wk.aJ ar,q2,⟨gl2,aax,p.fns,p.nodes⟩,_,_,_,_,ns,rfl,rfl,⟨⟨_,_,rfl⟩,⟨_,_,rfl⟩,Hf,Hn⟩,tq.trans t2,fun h=>(O8 h).2 _ _ zk,rfl⟩,?_⟩;split
       ·rename_i h;have:=(O8 h).1;omega
       ·omega
      ·have dp:(q.sign 0==[105,110,116])=false:=by
        cases h:(q.sign 0==[105,110,116]) with
        | false=>rfl
        | true=>exact absurd (eq_of_beq h) D
       by_cases X:q.sign 0=jv
       ·have rF:(q.sign 0==[102,117,110,99])=true:=by rw [X];rfl
        refine I ?_;refine V [1] m1 ?_;refine bU [1,5,6] (Vx q oq sbq (by rw [qy];exact Pq) p.fns p.nodes _ _ _ _ ns Hg Ha Hf Hn hlen.2.2.1 hlen.2.2.2) ?_;rintro _ _ ⟨q2,aa3,abT,_,_,Ih,t2,⟨Fh,cf2,rfl⟩,⟨⟨WB,WM,rfl⟩,N2,N3⟩,O8,rfl,rfl⟩;refine cV ?_;refine za1 ?_;refine ⟨if q2.code=0 then 6001 - q2.i else 0,⟨_,_,Wk.aJ ar,q2,⟨p.globals,p.arrays,aa3,abT⟩,_,_,_,_,Ih,rfl,rfl,⟨Hg,Ha,⟨_,_,rfl⟩,⟨⟨_,_,rfl⟩,N2,N3⟩⟩,tq.trans t2,fun h=>(O8 h).2 _ _ zk,rfl⟩,?_⟩;split
        ·rename_i h;have:=(O8 h).1;omega
        ·omega
       ·have rF:(q.sign 0==[102,117,110,99])=false:=by
         cases h:(q.sign 0==[102,117,110,99]) with
         | false=>rfl
         | true=>exact absurd (eq_of_beq h) X
        have m2:=ky q oq;have m3:=kL q 7 q.place;have t2:=lh oq 7 q.place
        have h7:¬ (q.fail 7 q.place).code=0:=by
         unfold RS.fail;rw [ae hc];show ¬ (7:Int)=0;omega
        generalize q.fail 7 q.place=q2 at *;refine I ?_;refine V [1] m1 ?_;refine V [1] m2 ?_;refine V [1] m3 ?_;refine jF ?_;refine I ?_;refine ⟨0,⟨_,_,Wk.aJ ar,q2,p,_,_,_,_,ns,rfl,rfl,⟨Hg,Ha,Hf,Hn⟩,tq.trans t2,fun h=>absurd h h7,by rw [ab h7]⟩,by omega⟩
     ·have hd:decide ((q.i:Int) < ((l.map cZ).length:Int))=false:=by rw [BJ];simpa using by omega
      exact zdp
    ·have dw:(q.code==0)=false:=by simpa using hc
     exact zdp
  ·rintro _ _ ⟨q,p,hg,ha,hf,hn,ns,rfl,rfl,HG,tq,zk⟩;have oq:=tq.ok ⟨aX _,by show l.length<=_;omega⟩
   have Uf:q.i<=l.length:=by have:=oq.1;rw [tq.1] at this;exact this
   unfold sq
   by_cases hc:q.code=0
   ·have dw:(q.code != 0)=false:=by simpa using hc
    have zk:=zk hc;have hw:=zk.w;obtain ⟨Hg,Ha,Hf,Hn⟩:=HG;obtain ⟨ag,cg,rfl⟩:=id Hg;obtain ⟨aa,ca,rfl⟩:=id Ha;obtain ⟨af,cf,rfl⟩:=id Hf;obtain ⟨⟨an,cn,rfl⟩,Hn2,Hn3⟩:=id Hn
    by_cases h8:p.nodes.length<=800
    ·have Xe:decide ((800:Int) < (p.nodes.length:Int))=false:=decide_eq_false G;refine zdm ?_;refine Ku (k:=4) 3 rfl dO rfl rfl rfl rfl rfl rfl (fun x hx=>IL (p:=p) (hg:=.slice ag p.globals.length cg) (ha:=.slice aa p.arrays.length ca) (hf:=.slice af p.fns.length cf) (hn:=.slice an p.nodes.length cn) (ns:=ns) x hx) ?_;exact ⟨p,_,_,_,_,ns,0,0,⟨Hg,Ha,Hf,Hn⟩,by omega,zk.num,rfl,rfl⟩
    ·have Xe:decide ((800:Int) < (p.nodes.length:Int))=true:=decide_eq_true G;refine I ?_;exact zaQ
   ·have dw:(q.code != 0)=true:=by simpa using hc
    refine I ?_;refine aM (ay 0 9 (.a 9 (.q 10 (.q 11 .nil)))) ?_;refine bq ?_;exact zaQ
 ·have dw:(c != 0)=true:=by simpa using hc
  refine I ?_;exact zaQ
attribute [local irreducible] rU xg sy
theorem PO (code:ah) (hl:code.length<=1099511627776) (c:dj) (hc:c.i<=code.length) :
  GC prog 186 [.loc 0 0] [gT code c] fun g Δ=>∃ (s:ah) (c':dj),c'.i<=code.length/\s.length<=1000000000/\g=.v (sv s)/\Δ=[gT code c']:=by
 have D:=yN code hl 2 c G hc;have b1:=Bf code 2 c;have i1:=GD (code:=code) 2 hc;have e2:BS 2=25800:=rfl;have e3:BS 3=155400:=rfl;have e4:zM 2=49:=rfl;rw [e2] at b1;generalize yb code 2 c=a at *;obtain ⟨s1,c1⟩:=a;simp only at D b1 i1;have X:=K9 code hl 2 c1 G i1;have b2:=nK code 2 c1;have i2:=rX (code:=code) 2 i1;rw [e4] at b2;generalize iz code 2 c1=a at *;obtain ⟨s2,c2⟩:=a;simp only at X b2 i2;have h3:=yN code hl 3 c2 G i2;have b3:=Bf code 3 c2;have i3:=GD (code:=code) 3 i2;rw [e3] at b3;generalize yb code 3 c2=a at *;obtain ⟨s3,c3⟩:=a;simp only at h3 b3 i3;refine ai func186 ntmps186 ?_;refine V [0] D ?_;refine V [0] X ?_;refine V [0] h3 ?_;refine b6 ?_;exact ⟨_,c3,i3,by simp only [aO,length_cons,length_nil];omega,rfl,rfl⟩
theorem Gl:GC prog 185 [] [] fun g Δ=>Δ=[]/\∃ rows,g=.sl 1 rows/\rows.length=14/\rows.all (Nc 1000)=true:=by
 refine ai func185 ntmps185 ?_;refine zal ?_;refine b6 ?_;exact ⟨rfl,_,rfl,by decide +kernel,by decide +kernel⟩
def aaw (code:ah) (g:GV) (Δ:List Ob):Prop:=∃ (c:dj) (p:Src) (hg ha hf hn:Value) (ns:List Value),c.i<=code.length/\pI p hg ha hf hn ns/\cQ p<=600000/\pj p/\g=.agg [.v hg,.v ha,.v hf,.v hn]/\Δ=gT code c::sq p hg ha hf hn ns
theorem Jy (code:ah) (hl:code.length<=1099511627776) (c:dj) (hc:c.i<=code.length) :
  GC prog 133 [.loc 0 0] [gT code c] (aaw code):=by
 have D:=db code 14 c hl hc;have r1:=cI code c (n:=14) G;have i1:=cD (code:=code) 14 hc;generalize aY code 14 c=a at *;obtain ⟨k,c1⟩:=a;simp only at D r1 i1;obtain ⟨k,rfl⟩:∃ q:Nat,k=(q:Int):=⟨k.toNat,by omega⟩;have X:=db code 3 c1 hl i1;have r2:=cI code c1 (n:=3) G;have i2:=cD (code:=code) 3 i1;generalize aY code 3 c1=a at *;obtain ⟨j,c2⟩:=a;simp only at X r2 i2;have h3:=PO code hl c2 i2;refine ai func133 ntmps133 ?_;refine bU [] Gl ?_;rintro _ _ ⟨rfl,rows,rfl,xI,Pu⟩;refine zaC ?_;rw [xI];refine V [0] D ?_;refine GL.Ng 1000 rfl rfl Pu (by rw [xI];omega) rfl ?_;intro s hs;refine cM ?_;refine bU [] (DY s G) ?_;rintro _ _ ⟨p,_,_,_,_,ns,z1,z2,⟨⟨ag,cg,rfl⟩,⟨aa,ca,rfl⟩,⟨af,cf,rfl⟩,⟨⟨an,cn,rfl⟩,N2,N3⟩⟩,hw,fh,rfl,rfl⟩;refine cV ?_;unfold sq;refine I ?_;refine V [0] X ?_
 by_cases hj:j=0
 ·have nw:(j==0)=true:=by simpa using hj
  refine I ?_;refine bU [0] h3 ?_;rintro _ _ ⟨s2,c3,i3,lY,rfl,rfl⟩;refine zaC ?_;refine bU [] (DY s2 G) ?_;rintro _ _ ⟨p2,_,_,_,_,Ih,z3,z4,⟨⟨ag2,cg2,rfl⟩,⟨aa2,ca2,rfl⟩,⟨Fh,cf2,rfl⟩,⟨⟨WB,WM,rfl⟩,M2,M3⟩⟩,pU,ZH,rfl,rfl⟩;refine cV ?_;unfold sq;refine zdm ?_;refine TH [0,7,8,9,10] (gT code c3::sq p2 (.slice ag2 p2.globals.length cg2) (.slice aa2 p2.arrays.length ca2) (.slice Fh p2.fns.length cf2) (.slice WB p2.nodes.length WM) Ih) rfl dO rfl rfl rfl rfl aC rfl ⟨⟨rfl,rfl⟩,⟨rfl,rfl⟩,⟨rfl,rfl⟩,⟨rfl,rfl⟩,⟨rfl,rfl⟩,trivial⟩ ?_;exact ⟨c3,p2,_,_,_,_,Ih,i3,⟨⟨_,_,rfl⟩,⟨_,_,rfl⟩,⟨_,_,rfl⟩,⟨⟨_,_,rfl⟩,M2,M3⟩⟩,pU,ZH,rfl,rfl⟩
 ·have nw:(j==0)=false:=by simpa using hj
  refine zdm ?_;refine TH [0,2,3,4,5] (gT code c2::sq p (.slice ag p.globals.length cg) (.slice aa p.arrays.length ca) (.slice af p.fns.length cf) (.slice an p.nodes.length cn) ns) rfl dO rfl rfl rfl rfl aC rfl ⟨⟨rfl,rfl⟩,⟨rfl,rfl⟩,⟨rfl,rfl⟩,⟨rfl,rfl⟩,⟨rfl,rfl⟩,trivial⟩ ?_;exact ⟨c2,p,_,_,_,_,ns,i2,⟨⟨_,_,rfl⟩,⟨_,_,rfl⟩,⟨_,_,rfl⟩,⟨⟨_,_,rfl⟩,N2,N3⟩⟩,hw,fh,rfl,rfl⟩
end Go.Xg
namespace Go.Sp
open Go.Xp Go.Im
theorem IU {α:Type} (f:α->Nat):∀ (l:List α) (i:Nat) (x y:α),l[i]?=some x->b8 f (l.set i y)+f x=b8 f l+f y
 | [],i,x,y,h=>by simp at h
 | z::l,0,x,y,h=>by cases h;rw [set_cons_zero,b8,b8];omega
 | z::l,i+1,x,y,h=>by have:=IU f l i x y zfx;rw [List.set_cons_succ,b8,b8];omega
theorem Bj (p:Src) (i:Nat) (x y:Nd) (h:p.nodes[i]?=some x):cQ ⟨p.globals,p.arrays,p.fns,p.nodes.set i y⟩+(x.s.length+x.kids.length+1)=cQ p+(y.s.length+y.kids.length+1):=by
 have:=IU (fun n:Nd=>n.s.length+n.kids.length+1) p.nodes i x y h;unfold cQ;simp only at *;omega
end Go.Sp
namespace Go.Xg
open Go.RowKit Go.Xw Go.Proofs Tryz Go.Sp Go.Im
open GV (U)
open Go.Xp (Nd)
theorem vQ {o:Nat} {g:GV} {x x':Nd} (hg:∀ y,bQ (dL x y) o g=dL x' y):∀ {aR:List Nd} {ns:List Value} {i:Nat},ns.length=aR.length->aR[i]?=some x->gF (List.zipWith dL aR ns) i o g=List.zipWith dL (aR.set i x') ns
 | [],ns,i,hl,h=>by simp at h
 | n::aR,[],i,hl,h=>by simp at hl
 | n::aR,v::ns,0,hl,h=>by
  cases h;rw [zipWith_cons_cons,set_cons_zero,zipWith_cons_cons,gF,hg]
 | n::aR,v::ns,i+1,hl,h=>by
  have:=vQ hg (aR:=aR) (ns:=ns) (i:=i) zfz zfx;rw [zipWith_cons_cons,gF,this];rfl
theorem v8 {x x':Nd} (hk:x'.kids=x.kids):∀ {aR:List Nd} {ns:List Value} {i:Nat},aR[i]?=some x->List.zipWith jE (aR.set i x') ns=List.zipWith jE aR ns
 | [],ns,i,h=>by simp at h
 | n::aR,[],i,h=>by cases i <;> simp
 | n::aR,v::ns,0,h=>by
  cases h;rw [set_cons_zero,zipWith_cons_cons,zipWith_cons_cons];unfold jE;rw [hk]
 | n::aR,v::ns,i+1,h=>by
  have:=v8 hk (aR:=aR) (ns:=ns) (i:=i) zfx;rw [List.set_cons_succ,zipWith_cons_cons,this];rfl
theorem qK.same {aR:List Nd} {h:Value} {ns:List Value} (H:qK aR h ns) {i:Nat} {x x':Nd} (hx:aR[i]?=some x) (hk:x'.kids=x.kids):qK (aR.set i x') h ns:=by
 obtain ⟨a,c,e⟩:=H.head;refine ⟨⟨a,c,by rw [e,length_set]⟩,by rw [length_set];exact H.len,fun j y v D X=>?_⟩;rw [eG] at D
 by_cases fj:i=j
 ·rw [ae fj] at D;split at D
  ·cases D;subst fj;rw [hk];exact H.kid i x v hx X
  ·cases D
 ·rw [ab fj] at D;exact H.kid j y v D X
abbrev pL (code:ah) (c:dj) (p:Src) (hg ha hf hn:Value) (ns:List Value):List Ob :=
 [gT code c,.box 28 [.v (.slice none 0 0),.v (.slice none 0 0),.v (.slice none 0 0),.v (.slice none 0 0)],.vech 9 1 (bW p.globals) hg,.vech 98 2 (p.arrays.map bb) ha,.vech 65 3 (p.fns.map ax) hf,.gone,.box 28 [.v hg,.v ha,.v hf,.v hn]]++cL p.nodes hn ns
theorem Wk.LC {m:Nat} {fr:List GV} {code:ah} {c:dj} {p:Src} {hg ha hf hn:Value} {ns:List Value} (HG:pI p hg ha hf hn ns) (hm:m<=7) :
  Wk m fr (pL code c p hg ha hf hn ns) (w6 7 fr) [gT code c,.box 28 [.v (.slice none 0 0),.v (.slice none 0 0),.v (.slice none 0 0),.v (.slice none 0 0)],.vec 9 1 (bW p.globals).length (bW p.globals),.vec 98 2 (p.arrays.map bb).length (p.arrays.map bb),.vec 65 3 (p.fns.map ax).length (p.fns.map ax),.gone,.box 28 (av p)]:=by
 refine (Wk.tM (i:=6) (o:=0) (j:=2) (x:=hg) rfl rfl rfl rfl).trans ?_;refine (Wk.tM (i:=6) (o:=1) (j:=3) (x:=ha) rfl rfl rfl rfl).trans ?_;refine (Wk.tM (i:=6) (o:=2) (j:=4) (x:=hf) rfl rfl rfl rfl).trans ?_;exact Wk.wO (i:=6) (o:=3) [gT code c,.box 28 [.v (.slice none 0 0),.v (.slice none 0 0),.v (.slice none 0 0),.v (.slice none 0 0)],.vec 9 1 (bW p.globals).length (bW p.globals),.vec 98 2 (p.arrays.map bb).length (p.arrays.map bb),.vec 65 3 (p.fns.map ax).length (p.fns.map ax),.gone,.box 28 [.sl 1 (bW p.globals),.sl 2 (p.arrays.map bb),.sl 3 (p.fns.map ax),.v hn]] HG.n rfl hm rfl rfl rfl
def L7 (code:ah) (g:GV) (Δ:List Ob):Prop:=∃ (c:dj) (p:Src),c.i<=code.length/\cQ p<=1048576/\pj p/\g=.agg (av p)/\Δ=[gT code c]
def pH (code:ah) (k i j:Nat) (fr:List GV) (Γ:List Ob):Prop:=∃ (c:dj) (p:Src) (hg ha hf hn:Value) (ns:List Value),fr=[.loc 0 0,U,.loc 1 0,.loc 6 0,.v (ii (k:Nat)),.v (ii (i:Nat)),U,U,U,U,U,U,U,U,U,U,U,U,U,U,U,U,U,U,U,U,U,U,U,U,U,U,U,U,U,U,U,U,U,U,U,U,U,U,U,U,U,U,U,U,U,U,U,U,U,U,U,U,U,U,U,U,U,U,U,U,U,U,U,U,U,U,U,U,U,U,U,U,U,U,U,U,U,U,U,U,U,U,U,U,U,U,U,U,U,U,U,U,U,U,U,U,U]/\Γ=pL code c p hg ha hf hn ns /\
 c.i<=code.length/\pI p hg ha hf hn ns/\cQ p<=600000+10 * j/\pj p/\i < p.nodes.length
theorem pH.next {code:ah} {k i j:Nat} {fr:List GV} {Γ:List Ob} (h:pH code k i j fr Γ):pH code k i (j+1) fr Γ:=by
 obtain ⟨c,p,hg,ha,hf,hn,ns,D,X,h3,h4,h5,h6⟩:=h;exact ⟨c,p,hg,ha,hf,hn,ns,D,X,h3,h4,by omega,h6⟩
attribute [local irreducible] GW GL GO YG GC GA bg bj rU xg sy
theorem Sl (code:ah) (hl:code.length<=1099511627776) (c:dj) (hc:c.i<=code.length) :
  GC prog 76 [.loc 0 0] [gT code c] (L7 code):=by
 have hB:=fun (n:Int) (c:dj) (h:c.i<=code.length)=>db code n c hl h
 have TN:=fun (n:Int) (c:dj) (h:c.i<=code.length)=>cD (code:=code) (c:=c) n h
 have hR:=fun (c:dj) (h:c.i<=code.length)=>Si code c hl h
 refine ai func76 ntmps76 ?_;refine bU [0] (Jy code hl c hc) ?_;rintro _ _ ⟨c1,p,_,_,_,_,ns,i1,⟨⟨ag,cg,rfl⟩,⟨aa,ca,rfl⟩,⟨af,cf,rfl⟩,⟨⟨an,cn,rfl⟩,N2,N3⟩⟩,hw,fh,rfl,rfl⟩;unfold sq;refine zaC ?_;have HG:pI p (.slice ag p.globals.length cg) (.slice aa p.arrays.length ca) (.slice af p.fns.length cf) (.slice an p.nodes.length cn) ns:=⟨⟨_,_,rfl⟩,⟨_,_,rfl⟩,⟨_,_,rfl⟩,⟨⟨_,_,rfl⟩,N2,N3⟩⟩;have g1:=hB 14 c1 i1;have r1:=cI code c1 (n:=14) G;have i2:=TN 14 c1 i1;generalize aY code 14 c1=a at *;obtain ⟨k,c2⟩:=a;simp only at g1 r1 i2;obtain ⟨k,rfl⟩:∃ q:Nat,k=(q:Int):=⟨k.toNat,by omega⟩;refine GL.wk (Wk.unpack 5 rfl) ?_;simp only [oset,cons_append,nil_append];unfold cL;refine kj [0] g1 ?_;simp only [ef]
 by_cases h0:p.nodes.length=0
 ·have tZ:(((p.nodes.map aW).length:Int)==0)=true:=by rw [cj,h0];rfl
  refine GL.wk (cX:=[.loc 0 0,U,.loc 1 0,.loc 6 0,U,U,U,U,U,.v (ii (k:Nat)),U,U,U,U,U,U,U,U,U,U,U,U,U,U,U,U,U,U,U,U,U,U,U,U,U,U,U,U,U,U,U,U,U,U,U,U,U,U,U,U,U,U,U,U,U,U,U,U,U,U,U,U,U,U,U,U,U,U,U,U,U,U,U,U,U,U,U,U,U,U,U,U,U,U,U,U,U,U,U,U,U,U,U,U,U,U,U,U,U,U,U,U,U]) (aV:=[gT code c2,.box 28 [.v (.slice none 0 0),.v (.slice none 0 0),.v (.slice none 0 0),.v (.slice none 0 0)],.vec 9 1 (bW p.globals).length (bW p.globals),.vec 98 2 (p.arrays.map bb).length (p.arrays.map bb),.vec 65 3 (p.fns.map ax).length (p.fns.map ax),.gone,.box 28 (av p)]) ?_ ?_
  ·refine Wk.trans (Wk.LC (code:=code) (c:=c2) HG ?_) ?_
   ·exact dP rfl
   ·exact Wk.aJ ar
  refine I ?_;refine iZ ?_;exact ⟨c2,p,i2,by omega,fh,rfl,rfl⟩
 ·have tZ:((p.nodes.length:Int)==0)=false:=by simp only [beq_eq_false_iff_ne];omega
  have g2:=hB (p.nodes.length:Int) c2 i2;have r2:=cI code c2 (n:=(p.nodes.length:Int)) G;have i3:=TN (p.nodes.length:Int) c2 i2;generalize aY code (p.nodes.length:Int) c2=a at *;obtain ⟨i,c3⟩:=a;simp only at g2 r2 i3;obtain ⟨i,rfl⟩:∃ q:Nat,i=(q:Int):=⟨i.toNat,by omega⟩
  have hi:i < p.nodes.length:=by omega
  have hw:cQ p<=600000+10 * 0:=hw;refine I ?_;refine kj [0] g2 ?_;simp only [ef];refine I ?_;refine GW.join (pH code k i 1) ?_ ?_
  ·by_cases hk:(k:Int)=0
   ·have fk:((k:Int)==0)=true:=by rw [hk];rfl
    obtain ⟨x,hx⟩:∃ x,p.nodes[i]?=some x:=⟨p.nodes[i]'G,ct _⟩;obtain ⟨y,hy⟩:∃ y,ns[i]?=some y:=⟨ns[i]'G,ct _⟩
    have bx:(List.zipWith dL p.nodes ns)[i]?=some [.v (ii x.kind),.v (ii x.at_),.v (ii x.n),.v (sv x.s),.v y]:=by rw [getElem?_zipWith,hx,hy];rfl
    have iR:(List.zipWith dL p.nodes ns).length=p.nodes.length:=by rw [tP];omega
    have g3:=hB 16 c3 i3;have sL:=TN 16 c3 i3;have r3:=cI code c3 (n:=16) G;generalize aY code 16 c3=a at *;obtain ⟨z,c4⟩:=a;simp only at g3 sL r3;have e1:=vQ (o:=0) (g:=.v (ii z)) (x:=x) (x':=({ kind:=z,at_:=x.at_,n:=x.n,s:=x.s,kids:=x.kids }:Nd)) (fun y=>rfl) N2 hx;have e2:=v8 (x:=x) (x':=({ kind:=z,at_:=x.at_,n:=x.n,s:=x.s,kids:=x.kids }:Nd)) rfl (ns:=ns) hx;refine za4 ?_;refine OA rfl rfl (GL.DL rfl rfl iR bx rfl rfl rfl rfl ?_);refine GL.nil (bh (dJ.mk zfq ?_))
    refine zdu ?_;refine ⟨_,_,Wk.aJ ar,c4,⟨p.globals,p.arrays,p.fns,p.nodes.set i ({ kind:=z,at_:=x.at_,n:=x.n,s:=x.s,kids:=x.kids }:Nd)⟩,_,_,_,_,ns,rfl,?_,sL,⟨HG.g,HG.a,HG.f,HG.n.same hx rfl⟩,?_,u0 fh i ?_,by rw [length_set];exact hi⟩
    ·exact zb3
    ·have:=Bj p i x ({ kind:=z,at_:=x.at_,n:=x.n,s:=x.s,kids:=x.kids }:Nd) hx;simp only at *;omega
    ·exact zee
   ·have fk:((k:Int)==0)=false:=by simpa using hk
    refine I ?_;exact ⟨_,_,Wk.aJ ar,pH.next ⟨c3,p,_,_,_,_,ns,rfl,rfl,i3,HG,hw,fh,hi⟩⟩
  rintro _ _ ⟨c,p,_,_,_,_,ns,rfl,rfl,ic,⟨⟨ag,cg,rfl⟩,⟨aa,ca,rfl⟩,⟨af,cf,rfl⟩,⟨⟨an,cn,rfl⟩,N2,N3⟩⟩,hw,fh,hi⟩;have HG:pI p (.slice ag p.globals.length cg) (.slice aa p.arrays.length ca) (.slice af p.fns.length cf) (.slice an p.nodes.length cn) ns:=⟨⟨_,_,rfl⟩,⟨_,_,rfl⟩,⟨_,_,rfl⟩,⟨⟨_,_,rfl⟩,N2,N3⟩⟩;refine za5 ?_;refine GW.join (pH code k i 2) ?_ ?_
  ·by_cases hk:(k:Int)=1
   ·have fk:((k:Int)==1)=true:=by rw [hk];rfl
    obtain ⟨x,hx⟩:∃ x,p.nodes[i]?=some x:=⟨p.nodes[i]'G,ct _⟩;obtain ⟨y,hy⟩:∃ y,ns[i]?=some y:=⟨ns[i]'G,ct _⟩
    have bx:(List.zipWith dL p.nodes ns)[i]?=some [.v (ii x.kind),.v (ii x.at_),.v (ii x.n),.v (sv x.s),.v y]:=by rw [getElem?_zipWith,hx,hy];rfl
    have iR:(List.zipWith dL p.nodes ns).length=p.nodes.length:=by rw [tP];omega
    have g3:=hB 6 c ic;have sL:=TN 6 c ic;have r3:=cI code c (n:=6) G;generalize aY code 6 c=a at *;obtain ⟨z,c4⟩:=a;simp only at g3 sL r3;obtain ⟨q,rfl⟩:∃ q:Nat,z=(q:Int):=⟨z.toNat,by omega⟩;have hr:=p9 (l:=[[],[88],[119,104,105,108,101],[111,107],[43],[45]]) (m:=q) (by show q < 6;omega);have hp:=l8 (l:=[[],[88],[119,104,105,108,101],[111,107],[43],[45]]) (n:=5) aC (q:Int);generalize mT [[],[88],[119,104,105,108,101],[111,107],[43],[45]] (q:Int)=sg at *;have e1:=vQ (o:=3) (g:=.v (sv sg)) (x:=x) (x':=({ kind:=x.kind,at_:=x.at_,n:=x.n,s:=sg,kids:=x.kids }:Nd)) (fun y=>rfl) N2 hx;have e2:=v8 (x:=x) (x':=({ kind:=x.kind,at_:=x.at_,n:=x.n,s:=sg,kids:=x.kids }:Nd)) rfl (ns:=ns) hx;refine I ?_;refine aM (ay 0 3 (.q 4 (.f 3 (.a 5 (ay 6 4 (.a 10 .nil))) 5 (.a 3 (ay 6 4 (.a 10 .nil)))))) ?_;refine ak ?_;refine GO.fork ?_ ?_
    ·refine zau ?_;refine np [0] g3 ?_;simp only [ef];refine zaq ?_;refine OA rfl rfl (GL.DL rfl rfl iR bx rfl rfl rfl rfl ?_);refine GL.nil (bh (dJ.mk zfq ?_))
     refine zdu ?_;refine ⟨_,_,Wk.aJ ar,c4,⟨p.globals,p.arrays,p.fns,p.nodes.set i ({ kind:=x.kind,at_:=x.at_,n:=x.n,s:=sg,kids:=x.kids }:Nd)⟩,_,_,_,_,ns,rfl,?_,sL,⟨HG.g,HG.a,HG.f,HG.n.same hx rfl⟩,?_,u0 fh i ?_,by rw [length_set];exact hi⟩
     ·exact zb3
     ·exact zcU
     ·exact zee
    ·refine np [0] g3 ?_;simp only [ef];refine ak ?_;refine du ?_;refine zaq ?_;refine OA rfl rfl (GL.DL rfl rfl iR bx rfl rfl rfl rfl ?_);refine GL.nil (bh (dJ.mk zfq ?_))
     refine zdu ?_;refine ⟨_,_,Wk.aJ ar,c4,⟨p.globals,p.arrays,p.fns,p.nodes.set i ({ kind:=x.kind,at_:=x.at_,n:=x.n,s:=sg,kids:=x.kids }:Nd)⟩,_,_,_,_,ns,rfl,?_,sL,⟨HG.g,HG.a,HG.f,HG.n.same hx rfl⟩,?_,u0 fh i ?_,by rw [length_set];exact hi⟩
     ·exact zb3
     ·exact zcU
     ·exact zee
   ·have fk:((k:Int)==1)=false:=by simpa using hk
    exact zap
  rintro _ _ ⟨c,p,_,_,_,_,ns,rfl,rfl,ic,⟨⟨ag,cg,rfl⟩,⟨aa,ca,rfl⟩,⟨af,cf,rfl⟩,⟨⟨an,cn,rfl⟩,N2,N3⟩⟩,hw,fh,hi⟩;have HG:pI p (.slice ag p.globals.length cg) (.slice aa p.arrays.length ca) (.slice af p.fns.length cf) (.slice an p.nodes.length cn) ns:=⟨⟨_,_,rfl⟩,⟨_,_,rfl⟩,⟨_,_,rfl⟩,⟨⟨_,_,rfl⟩,N2,N3⟩⟩;refine za5 ?_;refine GW.join (pH code k i 3) ?_ ?_
  ·by_cases hk:(k:Int)=2
   ·have fk:((k:Int)==2)=true:=by rw [hk];rfl
    obtain ⟨x,hx⟩:∃ x,p.nodes[i]?=some x:=⟨p.nodes[i]'G,ct _⟩;obtain ⟨y,hy⟩:∃ y,ns[i]?=some y:=⟨ns[i]'G,ct _⟩
    have bx:(List.zipWith dL p.nodes ns)[i]?=some [.v (ii x.kind),.v (ii x.at_),.v (ii x.n),.v (sv x.s),.v y]:=by rw [getElem?_zipWith,hx,hy];rfl
    have iR:(List.zipWith dL p.nodes ns).length=p.nodes.length:=by rw [tP];omega
    have g3:=hR c ic;have sL:=DA (code:=code) ic;have r3:=yZ code c;generalize uy code c=a at *;obtain ⟨z,c4⟩:=a;simp only at g3 sL r3;have e1:=vQ (o:=2) (g:=.v (ii z)) (x:=x) (x':=({ kind:=x.kind,at_:=x.at_,n:=z,s:=x.s,kids:=x.kids }:Nd)) (fun y=>rfl) N2 hx;have e2:=v8 (x:=x) (x':=({ kind:=x.kind,at_:=x.at_,n:=z,s:=x.s,kids:=x.kids }:Nd)) rfl (ns:=ns) hx;refine za4 ?_;refine OA rfl rfl (GL.DL rfl rfl iR bx rfl rfl rfl rfl ?_);refine GL.nil (bh (dJ.mk zfq ?_))
    refine zdu ?_;refine ⟨_,_,Wk.aJ ar,c4,⟨p.globals,p.arrays,p.fns,p.nodes.set i ({ kind:=x.kind,at_:=x.at_,n:=z,s:=x.s,kids:=x.kids }:Nd)⟩,_,_,_,_,ns,rfl,?_,sL,⟨HG.g,HG.a,HG.f,HG.n.same hx rfl⟩,?_,u0 fh i ?_,by rw [length_set];exact hi⟩
    ·exact zb3
    ·have:=Bj p i x ({ kind:=x.kind,at_:=x.at_,n:=z,s:=x.s,kids:=x.kids }:Nd) hx;simp only at *;omega
    ·exact r3
   ·have fk:((k:Int)==2)=false:=by simpa using hk
    exact zap
  rintro _ _ ⟨c,p,_,_,_,_,ns,rfl,rfl,ic,⟨⟨ag,cg,rfl⟩,⟨aa,ca,rfl⟩,⟨af,cf,rfl⟩,⟨⟨an,cn,rfl⟩,N2,N3⟩⟩,hw,fh,hi⟩;have HG:pI p (.slice ag p.globals.length cg) (.slice aa p.arrays.length ca) (.slice af p.fns.length cf) (.slice an p.nodes.length cn) ns:=⟨⟨_,_,rfl⟩,⟨_,_,rfl⟩,⟨_,_,rfl⟩,⟨⟨_,_,rfl⟩,N2,N3⟩⟩;refine za5 ?_;refine GW.join (pH code k i 4) ?_ ?_
  ·by_cases hk:(k:Int)=3
   ·have fk:((k:Int)==3)=true:=by rw [hk];rfl
    obtain ⟨x,hx⟩:∃ x,p.nodes[i]?=some x:=⟨p.nodes[i]'G,ct _⟩;obtain ⟨y,hy⟩:∃ y,ns[i]?=some y:=⟨ns[i]'G,ct _⟩
    have bx:(List.zipWith dL p.nodes ns)[i]?=some [.v (ii x.kind),.v (ii x.at_),.v (ii x.n),.v (sv x.s),.v y]:=by rw [getElem?_zipWith,hx,hy];rfl
    have iR:(List.zipWith dL p.nodes ns).length=p.nodes.length:=by rw [tP];omega
    obtain ⟨a3,d3,rfl⟩:=N3 i x y hx hy
    have sH:p.nodes.length<=1000000:=by have:=(vU p).2.2.2;omega
    have ach:x.kids.length<=1000000:=by have:=abS hx;omega
    have fC:(aU x.kids).length=x.kids.length:=by simp [aU]
    have jN:(List.zipWith jE p.nodes ns)[i]?=some (.vech 3 1 (aU x.kids) (.slice a3 x.kids.length d3)):=by rw [getElem?_zipWith,hx,hy];rfl
    have XW:=fun (y:Value)=>Ay (x.kids++[((p.nodes.length:Int) - 1)]) y N2 hx
    have eU:=fun (y:Value)=>Aw (x.kids++[((p.nodes.length:Int) - 1)]) y N2 hx
    have ny:aU (x.kids++[((p.nodes.length:Int) - 1)])=aU x.kids++[[.v (ii ((p.nodes.length:Int) - 1))]]:=by simp [aU]
    rw [ny] at eU
    have kc:=fun (a:Option Addr) (c:Nat)=>HG.n.put hx (x.kids++[((p.nodes.length:Int) - 1)]) (b:=a) (d:=c) (n:=(aU x.kids).length+1) (by simp [aU])
    have MB:∀ x0 x1 x2 x3 x4 x5 x6 x7:Ob,(x0::x1::x2::x3::x4::x5::x6::x7::List.zipWith jE p.nodes ns)[i+8]?=some (.vech 3 1 (aU x.kids) (.slice a3 x.kids.length d3)):=fun _ _ _ _ _ _ _ _=>jN
    refine I ?_;refine aM (ay 0 13 (.a 13 (.a 14 (.q 15 (.q 16 (.a 17 .nil)))))) ?_;refine zaq ?_;refine OA rfl rfl (GL.Yp rfl rfl rfl rfl (GL.nil (bh (dJ.mk zfr ?_))))
    refine lk dd dZ ?_;refine ak ?_;refine OA rfl rfl (GL.pk (i+8) (news:=[[.v (ii ((p.nodes.length:Int) - 1))]]) rfl rfl (MB _ _ _ _ _ _ _ _) rfl rfl rfl ⟨by show _+1<=_;omega,by show (_+1) * _<=_;omega⟩ ?_);intro a4 c4;refine GL.nil (bh (dJ.mk zfr ?_))
    refine lk dd (by simp only [oset];rw [eU]) ?_;refine zaq ?_;refine OA rfl rfl (GL.DL rfl rfl iR bx rfl rfl rfl rfl ?_);refine GL.nil (bh (dJ.mk zfq ?_))
    refine zdu ?_;rw [XW];refine ⟨_,_,Wk.aJ ar,c,⟨p.globals,p.arrays,p.fns,p.nodes.set i (eK x (x.kids++[((p.nodes.length:Int) - 1)]))⟩,_,_,_,_,_,rfl,rfl,ic,⟨HG.g,HG.a,HG.f,kc _ _⟩,?_,u0 fh i ?_,by rw [length_set];exact hi⟩
    ·have:=Bj p i x (eK x (x.kids++[((p.nodes.length:Int) - 1)])) hx;unfold eK at *;simp only [aO,length_cons,length_nil] at *;omega
    ·exact zee
   ·have fk:((k:Int)==3)=false:=by simpa using hk
    exact zap
  rintro _ _ ⟨c,p,_,_,_,_,ns,rfl,rfl,ic,⟨⟨ag,cg,rfl⟩,⟨aa,ca,rfl⟩,⟨af,cf,rfl⟩,⟨⟨an,cn,rfl⟩,N2,N3⟩⟩,hw,fh,hi⟩;have HG:pI p (.slice ag p.globals.length cg) (.slice aa p.arrays.length ca) (.slice af p.fns.length cf) (.slice an p.nodes.length cn) ns:=⟨⟨_,_,rfl⟩,⟨_,_,rfl⟩,⟨_,_,rfl⟩,⟨⟨_,_,rfl⟩,N2,N3⟩⟩;refine za5 ?_;refine GW.join (pH code k i 5) ?_ ?_
  ·by_cases hk:(k:Int)=4
   ·have fk:((k:Int)==4)=true:=by rw [hk];rfl
    obtain ⟨x,hx⟩:∃ x,p.nodes[i]?=some x:=⟨p.nodes[i]'G,ct _⟩;obtain ⟨y,hy⟩:∃ y,ns[i]?=some y:=⟨ns[i]'G,ct _⟩
    have bx:(List.zipWith dL p.nodes ns)[i]?=some [.v (ii x.kind),.v (ii x.at_),.v (ii x.n),.v (sv x.s),.v y]:=by rw [getElem?_zipWith,hx,hy];rfl
    have iR:(List.zipWith dL p.nodes ns).length=p.nodes.length:=by rw [tP];omega
    have g3:=hR c ic;have sL:=DA (code:=code) ic;have r3:=yZ code c;generalize uy code c=a at *;obtain ⟨z,c4⟩:=a;simp only at g3 sL r3;have e1:=vQ (o:=1) (g:=.v (ii z)) (x:=x) (x':=({ kind:=x.kind,at_:=z,n:=x.n,s:=x.s,kids:=x.kids }:Nd)) (fun y=>rfl) N2 hx;have e2:=v8 (x:=x) (x':=({ kind:=x.kind,at_:=z,n:=x.n,s:=x.s,kids:=x.kids }:Nd)) rfl (ns:=ns) hx;refine za4 ?_;refine OA rfl rfl (GL.DL rfl rfl iR bx rfl rfl rfl rfl ?_);refine GL.nil (bh (dJ.mk zfq ?_))
    refine zdu ?_;refine ⟨_,_,Wk.aJ ar,c4,⟨p.globals,p.arrays,p.fns,p.nodes.set i ({ kind:=x.kind,at_:=z,n:=x.n,s:=x.s,kids:=x.kids }:Nd)⟩,_,_,_,_,ns,rfl,?_,sL,⟨HG.g,HG.a,HG.f,HG.n.same hx rfl⟩,?_,u0 fh i ?_,by rw [length_set];exact hi⟩
    ·exact zb3
    ·have:=Bj p i x ({ kind:=x.kind,at_:=z,n:=x.n,s:=x.s,kids:=x.kids }:Nd) hx;simp only at *;omega
    ·exact zee
   ·have fk:((k:Int)==4)=false:=by simpa using hk
    exact zap
  rintro _ _ ⟨c,p,_,_,_,_,ns,rfl,rfl,ic,⟨⟨ag,cg,rfl⟩,⟨aa,ca,rfl⟩,⟨af,cf,rfl⟩,⟨⟨an,cn,rfl⟩,N2,N3⟩⟩,hw,fh,hi⟩;have HG:pI p (.slice ag p.globals.length cg) (.slice aa p.arrays.length ca) (.slice af p.fns.length cf) (.slice an p.nodes.length cn) ns:=⟨⟨_,_,rfl⟩,⟨_,_,rfl⟩,⟨_,_,rfl⟩,⟨⟨_,_,rfl⟩,N2,N3⟩⟩;unfold pL cL;simp only [cons_append,nil_append];refine GW.seq ?_;refine GW.seq ?_;refine GW.join (fun fr Γ=>∃ (b:Bool) (c:dj) (p:Src) (hg ha hf hn:Value) (ns:List Value),fr=[.loc 0 0,U,.loc 1 0,.loc 6 0,.v (ii (k:Nat)),.v (ii (i:Nat)),U,U,U,U,U,U,U,U,U,U,U,U,U,U,U,U,U,U,U,U,U,U,U,U,U,U,U,U,U,U,U,U,U,U,U,U,U,U,U,U,U,U,U,U,U,U,U,U,U,U,U,U,U,U,U,U,U,U,U,U,U,U,U,U,U,U,U,U,U,U,U,U,U,U,U,U,U,U,U,.v (.bool b),U,U,U,U,U,U,U,U,U,U,U,U,U,U,U,U,U]/\Γ=pL code c p hg ha hf hn ns/\c.i<=code.length/\pI p hg ha hf hn ns/\cQ p<=600000+10 * 5/\pj p/\i < p.nodes.length/\(b=true->0 < p.fns.length)) ?_ ?_
  ·by_cases hk:(k:Int)=5
   ·have fk:((k:Int)==5)=true:=by rw [hk];rfl
    refine I ?_;exact ⟨_,_,Wk.aJ ar,decide ((0:Int) < (p.fns.length:Int)),c,p,_,_,_,_,ns,rfl,rfl,ic,HG,hw,fh,hi,fun h=>by have:=nD h;omega⟩
   ·have fk:((k:Int)==5)=false:=by simpa using hk
    refine I ?_;exact ⟨_,_,Wk.aJ ar,false,c,p,_,_,_,_,ns,rfl,rfl,ic,HG,hw,fh,hi,fun h=>by cases h⟩
  rintro _ _ ⟨b,c,p,_,_,_,_,ns,rfl,rfl,ic,⟨⟨ag,cg,rfl⟩,⟨aa,ca,rfl⟩,⟨af,cf,rfl⟩,⟨⟨an,cn,rfl⟩,N2,N3⟩⟩,hw,fh,hi,FH⟩;have HG:pI p (.slice ag p.globals.length cg) (.slice aa p.arrays.length ca) (.slice af p.fns.length cf) (.slice an p.nodes.length cn) ns:=⟨⟨_,_,rfl⟩,⟨_,_,rfl⟩,⟨_,_,rfl⟩,⟨⟨_,_,rfl⟩,N2,N3⟩⟩;refine za5 ?_;refine GW.join (pH code k i 6) ?_ ?_
  ·cases b with
   | true =>
    have FH:=FH rfl
    obtain ⟨f,r,mM⟩:∃ f r,p.fns=f::r:=by
     cases hq:p.fns with
     | nil=>rw [hq] at FH;exact absurd FH (Nat.lt_irrefl 0)
     | cons f r=>exact ⟨f,r,rfl⟩
    have g3:=hR c ic;have sL:=DA (code:=code) ic;have r3:=yZ code c;generalize uy code c=a at *;obtain ⟨z,c4⟩:=a;simp only at g3 sL r3
    have bx:(p.fns.map ax)[0]?=some [.v (sv f.name),strs f.params,.v (ii f.body)]:=by rw [mM];rfl
    have BJ:0 < (p.fns.map ax).length:=by rw [mM];exact Nat.succ_pos _
    refine I ?_;refine aM (ay 0 3 (.a 3 (.q 4 (.q 5 (.a 6 .nil))))) ?_;refine ak ?_;refine np [0] g3 ?_;simp only [ef];refine ak ?_;refine OA rfl rfl (GL.DL rfl rfl rfl bx rfl rfl rfl rfl ?_);refine GL.nil (bh (dJ.mk (by repeat (first | exact da.n | (apply da.w;(· decide +kernel)) | (apply da.y;(· first | (apply YQ.t;(· exact rfl);(· exact rfl);(· (first | exact YG.Us 4 0 rfl rfl rfl rfl (eo _ _ _ _) BJ | (first | exact fZ | (apply K.idx;first | exact YG.idxV rfl rfl rfl az G | exact YG.aQ 0 rfl rfl rfl aE | exact YG.aQ 1 rfl rfl rfl aE | exact YG.aQ 2 rfl rfl rfl aE | exact YG.aQ 3 rfl rfl rfl aE | exact YG.aQ 4 rfl rfl rfl aE | exact YG.aQ 5 rfl rfl rfl aE | exact YG.aQ 6 rfl rfl rfl aE) | exact gh | exact YG.fY 1 rfl rfl az az | exact YG.mv | exact YG.mq | (apply K.bin;first | exact YG.go rfl | exact YG.kB rfl rfl G | exact YG.jm rfl rfl | exact YG.jw rfl rfl | exact YG.oM rfl rfl | exact YG.o7 rfl rfl | exact YG.cat rfl rfl G | exact YG.cat rfl rfl zfV | exact YG.addN rfl rfl G | exact YG.add rfl rfl G | exact YG.sub rfl rfl G | exact YG.mul rfl rfl G | exact YG.mg rfl rfl G | exact YG.quo rfl rfl G | exact YG.rem rfl rfl G | exact YG.iv rfl rfl) | exact fK | exact fJ | exact gM | exact fb | exact fp | (apply K.idx;first | exact YG.gZ rfl rfl aK | exact YG.cm rfl rfl aK rfl | exact YG.cm rfl rfl aK G | exact YG.kJ rfl rfl G) | exact YG.ext rfl rfl | exact YG.go rfl | (apply K.qc;first | exact YG.mf rfl rfl rfl G | exact YG.me rfl rfl G | exact YG.mc rfl rfl G | exact YG.gH 1 rfl rfl rfl az) | exact YG.jr rfl rfl aK | exact YG.idxSC rfl rfl aK rfl | exact ft | exact YG.build rfl | exact YG.neg rfl G | exact YG.jn rfl rfl | exact YG.nJ rfl zf0 | exact YG.str rfl az)))) | (apply YQ.t;(· exact rfl);(· apply rj;(· exact rfl);(· first | exact rfl | assumption));(· (first | exact YG.Us 4 0 rfl rfl rfl rfl (eo _ _ _ _) BJ | (first | exact fZ | (apply K.idx;first | exact YG.idxV rfl rfl rfl az G | exact YG.aQ 0 rfl rfl rfl aE | exact YG.aQ 1 rfl rfl rfl aE | exact YG.aQ 2 rfl rfl rfl aE | exact YG.aQ 3 rfl rfl rfl aE | exact YG.aQ 4 rfl rfl rfl aE | exact YG.aQ 5 rfl rfl rfl aE | exact YG.aQ 6 rfl rfl rfl aE) | exact gh | exact YG.fY 1 rfl rfl az az | exact YG.mv | exact YG.mq | (apply K.bin;first | exact YG.go rfl | exact YG.kB rfl rfl G | exact YG.jm rfl rfl | exact YG.jw rfl rfl | exact YG.oM rfl rfl | exact YG.o7 rfl rfl | exact YG.cat rfl rfl G | exact YG.cat rfl rfl zfV | exact YG.addN rfl rfl G | exact YG.add rfl rfl G | exact YG.sub rfl rfl G | exact YG.mul rfl rfl G | exact YG.mg rfl rfl G | exact YG.quo rfl rfl G | exact YG.rem rfl rfl G | exact YG.iv rfl rfl) | exact fK | exact fJ | exact gM | exact fb | exact fp | (apply K.idx;first | exact YG.gZ rfl rfl aK | exact YG.cm rfl rfl aK rfl | exact YG.cm rfl rfl aK G | exact YG.kJ rfl rfl G) | exact YG.ext rfl rfl | exact YG.go rfl | (apply K.qc;first | exact YG.mf rfl rfl rfl G | exact YG.me rfl rfl G | exact YG.mc rfl rfl G | exact YG.gH 1 rfl rfl rfl az) | exact YG.jr rfl rfl aK | exact YG.idxSC rfl rfl aK rfl | exact ft | exact YG.build rfl | exact YG.neg rfl G | exact YG.jn rfl rfl | exact YG.nJ rfl zf0 | exact YG.str rfl az)))) | (apply YQ.f;(· exact rfl);(· apply r6;(· exact rfl);(· first | exact rfl | assumption))))))) ?_))
    refine zdu ?_;refine ⟨_,_,Wk.aJ ar,c4,⟨p.globals,p.arrays,({ name:=f.name,params:=f.params,body:=z }:Go.Sp.Fn)::r,p.nodes⟩,_,_,.slice af p.fns.length cf,_,ns,rfl,?_,sL,⟨HG.g,HG.a,?_,HG.n⟩,?_,⟨fh.arrays,fh.nodes⟩,hi⟩
    ·unfold pL cL;simp only;rw [mM];rfl
    ·exact ⟨_,_,by rw [mM];rfl⟩
    ·have:=aap p f ({ name:=f.name,params:=f.params,body:=z }:Go.Sp.Fn) r mM rfl rfl;omega
   | false =>
    exact zap
  rintro _ _ ⟨c,p,_,_,_,_,ns,rfl,rfl,ic,⟨⟨ag,cg,rfl⟩,⟨aa,ca,rfl⟩,⟨af,cf,rfl⟩,⟨⟨an,cn,rfl⟩,N2,N3⟩⟩,hw,fh,hi⟩;have HG:pI p (.slice ag p.globals.length cg) (.slice aa p.arrays.length ca) (.slice af p.fns.length cf) (.slice an p.nodes.length cn) ns:=⟨⟨_,_,rfl⟩,⟨_,_,rfl⟩,⟨_,_,rfl⟩,⟨⟨_,_,rfl⟩,N2,N3⟩⟩;refine za5 ?_;refine GW.join (pH code k i 7) ?_ ?_
  ·by_cases hk:(k:Int)=6
   ·have fk:((k:Int)==6)=true:=by rw [hk];rfl
    have g3:=hR c ic;have sL:=DA (code:=code) ic;have r3:=yZ code c;generalize uy code c=a at *;obtain ⟨z,c4⟩:=a;simp only at g3 sL r3
    have Xo:p.arrays.length<=1000000:=by have:=(vU p).2.1;omega
    have iR:(p.arrays.map bb).length=p.arrays.length:=cj _;refine I ?_;refine aM (ay 0 3 (.a 3 (.q 4 (.a 5 (.a 6 (.q 7 (.a 8 .nil))))))) ?_;refine ak ?_;refine np [0] g3 ?_;simp only [ef];refine zdE ?_;refine OA rfl rfl (GL.pk 3 (news:=[[.v (sv [122,122]),.v (ii z)]]) rfl rfl rfl iR rfl rfl ⟨by show _+1<=_;omega,by show (_+1) * _<=_;omega⟩ ?_);intro a5 c5;refine zbI ?_;refine ⟨_,_,Wk.aJ ar,c4,⟨p.globals,p.arrays++[⟨[122,122],z⟩],p.fns,p.nodes⟩,_,.slice a5 (p.arrays.length+1) c5,_,_,ns,rfl,?_,sL,⟨HG.g,⟨a5,c5,?_⟩,HG.f,HG.n⟩,?_,⟨fun a ha=>?_,fh.nodes⟩,hi⟩
    ·unfold pL cL;simp only;rw [mo];rfl
    ·simp
    ·rw [aao];simp only [length_cons,length_nil];omega
    ·rcases nt ha with ha | ha
     ·exact fh.arrays a ha
     ·rw [mem_singleton] at ha;subst ha;exact r3
   ·have fk:((k:Int)==6)=false:=by simpa using hk
    exact zap
  rintro _ _ ⟨c,p,_,_,_,_,ns,rfl,rfl,ic,⟨⟨ag,cg,rfl⟩,⟨aa,ca,rfl⟩,⟨af,cf,rfl⟩,⟨⟨an,cn,rfl⟩,N2,N3⟩⟩,hw,fh,hi⟩;have HG:pI p (.slice ag p.globals.length cg) (.slice aa p.arrays.length ca) (.slice af p.fns.length cf) (.slice an p.nodes.length cn) ns:=⟨⟨_,_,rfl⟩,⟨_,_,rfl⟩,⟨_,_,rfl⟩,⟨⟨_,_,rfl⟩,N2,N3⟩⟩;refine GW.wk (cX:=[.loc 0 0,U,.loc 1 0,.loc 6 0,U,U,U,U,U,U,U,U,U,U,U,U,U,U,U,U,U,U,U,U,U,U,U,U,U,U,U,U,U,U,U,U,U,U,U,U,U,U,U,U,U,U,U,U,U,U,U,U,U,U,U,U,U,U,U,U,U,U,U,U,U,U,U,U,U,U,U,U,U,U,U,U,U,U,U,U,U,U,U,U,U,U,U,U,U,U,U,U,U,U,U,U,U,U,U,U,U,U,U]) (aV:=[gT code c,.box 28 [.v (.slice none 0 0),.v (.slice none 0 0),.v (.slice none 0 0),.v (.slice none 0 0)],.vec 9 1 (bW p.globals).length (bW p.globals),.vec 98 2 (p.arrays.map bb).length (p.arrays.map bb),.vec 65 3 (p.fns.map ax).length (p.fns.map ax),.gone,.box 28 (av p)]) ?_ ?_
  ·refine Wk.trans (Wk.LC (code:=code) (c:=c) HG ?_) ?_
   ·exact dP rfl
   ·exact Wk.aJ ar
  refine I ?_;refine iZ ?_;exact ⟨c,p,ic,by omega,fh,rfl,rfl⟩
end Go.Xg
namespace Go.Xg
open Go.RowKit Go.Xw Go.Proofs Tryz Go.Sp Go.Im
open GV (U)
theorem VT {K:Fz} {β:Bt} {v a b c d x y:Value} (h:Rel K β v (.tup [.agg [.v a,.v b,.v c,.v d],.v x,.v y])):v=.tuple #[.agg #[a,b,c,d],x,y]:=by
 cases h with
 | tup vs cs hl h =>
  match vs,hl with
  | [v0,v1,v2],_ =>
   have h0:=Rp (h 0 _ _ rfl rfl);have D:=(h 1 _ _ rfl rfl).eE;have X:=(h 2 _ _ rfl rfl).eE;subst h0;subst D;subst X;rfl
theorem VU {K:Fz} (β:Bt) {hg ha hf hn x y:Value} {p:Src} (e:bs K (fun _=>Bk.no) [hg,ha,hf,hn] (av p)):Rel K β (.tuple #[.agg #[hg,ha,hf,hn],x,y]) (.tup [.agg (av p),.v x,.v y]):=by
 have e2:bs K β [hg,ha,hf,hn] (av p):=bs.rN e (OB p);have hc:bs K β [.agg #[hg,ha,hf,hn],x,y] [.agg (av p),.v x,.v y]:=.cons (.agg [hg,ha,hf,hn] _ e2.1 e2.2) (.cons (.v _) (.cons (.v _) .nil));exact .tup [.agg #[hg,ha,hf,hn],x,y] _ hc.1 hc.2
theorem DX (s:ah) (hs:s.length<=1000000000000):GC prog 95 [.v (sv s)] [] fun g Δ=>Δ=[]/\∃ p c z,cQ p<=600000/\pj p/\g=.tup [.agg (av p),.v (ii c),.v (ii z)]:=fun B K β w vs hm hI hF =>
 (DY s hs B K β w vs hm hI hF).mono fun v w' ⟨K',bR,g,aV,bA,hr,p,hg,ha,hf,hn,ns,c,z,HG,hw,fh,kU,bD⟩=>by
  subst kU;subst bD;obtain ⟨β2,b1,_,_,i1⟩:=bA.unpack (i:=3) (N:=cL p.nodes hn ns) rfl;obtain ⟨K1,k1,q1,i2⟩:=i1.rh (i:=0) (E:=9) (k:=1) (rows:=bW p.globals) (x:=hg) rfl;obtain ⟨K2,k2,q2,i3⟩:=i2.rh (i:=1) (E:=98) (k:=2) (rows:=p.arrays.map bb) (x:=ha) rfl;obtain ⟨K3,k3,q3,i4⟩:=i3.rh (i:=2) (E:=65) (k:=3) (rows:=p.fns.map ax) (x:=hf) rfl;obtain ⟨K4,k4,q4,i5⟩:=i4.wO (A:=[.vec 9 1 (bW p.globals).length (bW p.globals),.vec 98 2 (p.arrays.map bb).length (p.arrays.map bb),.vec 65 3 (p.fns.map ax).length (p.fns.map ax),.gone]) HG.n rfl (by rw [hm];exact aX _) rfl;have hv:=VT hr;subst hv;have b:=dI.refl (fun _=>Bk.no);refine ⟨K4,_,.tup [.agg (av p),.v (ii c),.v (ii z)],[],i5.cut (n:=0) zgy rfl,?_,rfl,p,c,z,hw,fh,rfl⟩;have e:bs K4 (fun _=>Bk.no) [hg,ha,hf,hn] (av p):=.cons ((q1.pc (bR:=fun _=>Bk.no) rfl).mono (k2.trans (k3.trans k4)) b) (.cons ((q2.pc (bR:=fun _=>Bk.no) rfl).mono (k3.trans k4) b) (.cons ((q3.pc (bR:=fun _=>Bk.no) rfl).mono k4 b) (.cons q4 .nil)));exact VU _ e
def TxR (code:ah) (g:GV) (Δ:List Ob):Prop:=∃ (s:ah) (c:dj),c.i<=code.length/\s.length<=1000/\g=.v (sv s)/\Δ=[gT code c]
attribute [local irreducible] GW GL GO YG GC GA bg bj rU xg sy
theorem PV (code:ah) (hl:code.length<=1099511627776) (c:dj) (hc:c.i<=code.length) :
  GC prog 164 [.loc 0 0] [gT code c] (TxR code):=by
 have D:=db code 25 c hl hc;have r1:=cI code c (n:=25) G;have i1:=cD (code:=code) 25 hc;generalize aY code 25 c=a at *;obtain ⟨k,c1⟩:=a;simp only at D r1 i1;obtain ⟨k,rfl⟩:∃ q:Nat,k=(q:Int):=⟨k.toNat,by omega⟩;refine ai func164 ntmps164 ?_;refine zal ?_;refine V [0] D ?_;refine GL.Ng 1000 rfl rfl (by decide +kernel) (by show k < 25;omega) rfl ?_;intro s hs;exact zfg
theorem PW (code:ah) (hl:code.length<=1099511627776) (c:dj) (hc:c.i<=code.length) :
  GC prog 168 [.loc 0 0] [gT code c] (TxR code):=by
 have D:=db code 8 c hl hc;have r1:=cI code c (n:=8) G;have i1:=cD (code:=code) 8 hc;generalize aY code 8 c=a at *;obtain ⟨k,c1⟩:=a;simp only at D r1 i1;obtain ⟨k,rfl⟩:∃ q:Nat,k=(q:Int):=⟨k.toNat,by omega⟩;refine ai func168 ntmps168 ?_;refine zal ?_;refine V [0] D ?_;refine GL.Ng 1000 rfl rfl (by decide +kernel) (by show k < 8;omega) rfl ?_;intro s hs;exact zfg
theorem JC (code:ah) (hl:code.length<=1099511627776) (c:dj) (hc:c.i<=code.length) :
  GC prog 96 [.loc 0 0] [gT code c] (L7 code):=by
 have D:=db code 3 c hl hc;have i1:=cD (code:=code) 3 hc;generalize aY code 3 c=a at *;obtain ⟨k,c1⟩:=a;simp only at D i1
 by_cases hk:0 < k
 ·have fk:decide ((0:Int) < k)=true:=by simpa using hk
  refine ai func96 ntmps96 ?_;refine V [0] D ?_;refine bU [0] (Sl code hl c1 i1) ?_;rintro _ _ ⟨c2,p,i2,hw,hn,rfl,rfl⟩;exact zcu
 ·have fk:decide ((0:Int) < k)=false:=by simpa using hk
  refine ai func96 ntmps96 ?_;refine V [0] D ?_;refine bU [0] (PV code hl c1 i1) ?_;rintro _ _ ⟨s,c2,i2,hs,rfl,rfl⟩;exact zbP
theorem JD (code:ah) (hl:code.length<=1099511627776) (c:dj) (hc:c.i<=code.length) :
  GC prog 106 [.loc 0 0] [gT code c] (L7 code):=by
 have D:=db code 2 c hl hc;have i1:=cD (code:=code) 2 hc;generalize aY code 2 c=a at *;obtain ⟨k,c1⟩:=a;simp only at D i1
 by_cases hk:k=0
 ·have fk:(k==0)=true:=by simpa using hk
  refine ai func106 ntmps106 ?_;refine V [0] D ?_;refine bU [0] (JC code hl c1 i1) ?_;rintro _ _ ⟨c2,p,i2,hw,hn,rfl,rfl⟩;exact zcu
 ·have fk:(k==0)=false:=by simpa using hk
  refine ai func106 ntmps106 ?_;refine V [0] D ?_;refine bU [0] (PW code hl c1 i1) ?_;rintro _ _ ⟨s,c2,i2,hs,rfl,rfl⟩;exact zbP
def oZ:List ah:=[[97],[98],[100],[101],[109,97,105,110]]
theorem JF (code:ah) (hl:code.length<=1099511627776) (c:dj) (hc:c.i<=code.length) :
  GC prog 51 [.loc 0 0] [gT code c] (L7 code):=by
 have D:=db code 3 c hl hc;have i1:=cD (code:=code) 3 hc;generalize aY code 3 c=a at *;obtain ⟨k,c1⟩:=a;simp only at D i1
 by_cases hk:k=0
 ·have fk:(k==0)=true:=by simpa using hk
  refine ai func51 ntmps51 ?_;refine V [0] D ?_;refine bU [0] (JD code hl c1 i1) ?_;rintro _ _ ⟨c2,p,i2,hw,hn,rfl,rfl⟩;exact zcu
 ·have fk:(k==0)=false:=by simpa using hk
  refine ai func51 ntmps51 ?_;refine V [0] D ?_;refine zal ?_;refine GW.range 5 (fun k fr Γ=>∃ out c,fr=[.loc 0 0,U,.loc 1 0,.v (sv out),strs oZ,U,U,U,U,U,U,U,U,U,U,U,U,strs oZ,.v (ii ((5:Nat):Int)),.v (ii (k:Nat)),U,U,U,U,U,U,U,U,U,U,U,U,U,U,U,U,U,U,U,U,U,U,U,U,U,U,U,U,U,U,U,U]/\Γ=[gT code c,.box 28 [.v (.slice none 0 0),.v (.slice none 0 0),.v (.slice none 0 0),.v (.slice none 0 0)]]/\c.i<=code.length/\out.length<=100 * k) ?_ G ?_ ?_ ?_
  ·exact ⟨_,_,Wk.aJ ar,[],c1,rfl,rfl,i1,aX _⟩
  ·rintro k _ _ ⟨out,c,rfl,rfl,_,_⟩;exact ea
  ·rintro k _ _ T8 ⟨out,c,rfl,rfl,hc,ho⟩;have hr:=p9 (l:=oZ) (m:=k) (by show k < 5;omega);have hp:=l8 (l:=oZ) (n:=4) aC (k:Int);generalize mT oZ (k:Int)=nm at *;have X:=db code 3 c hl hc;have r2:=cI code c (n:=3) G;have i2:=cD (code:=code) 3 hc;generalize aY code 3 c=a at *;obtain ⟨n,c2⟩:=a;simp only at X r2 i2;obtain ⟨n,rfl⟩:∃ q:Nat,n=(q:Int):=⟨n.toNat,by omega⟩;refine I ?_;refine V [0] X ?_;refine GW.A4 (fun fr Γ=>∃ out c,fr=[.loc 0 0,U,.loc 1 0,.v (sv out),strs oZ,U,U,U,U,U,U,U,U,U,U,U,U,strs oZ,.v (ii ((5:Nat):Int)),.v (ii (k:Nat)),U,U,U,U,U,U,U,U,U,U,U,U,U,U,U,U,U,U,U,U,U,U,U,U,U,U,U,U,U,U,U,U]/\Γ=[gT code c,.box 28 [.v (.slice none 0 0),.v (.slice none 0 0),.v (.slice none 0 0),.v (.slice none 0 0)]]/\c.i<=code.length/\out.length<=100 * k+90) ?_ ?_
   ·refine GW.loop (fun x:Nat=>x) (fun x fr Γ=>∃ out c,fr=[.loc 0 0,U,.loc 1 0,.v (sv out),strs oZ,U,U,.v (ii (x:Nat)),U,U,U,U,U,U,U,U,U,strs oZ,.v (ii ((5:Nat):Int)),.v (ii (k:Nat)),U,U,U,U,U,U,U,U,U,U,U,U,U,U,U,U,U,U,U,U,U,U,U,U,U,U,U,U,U,U,U,U]/\Γ=[gT code c,.box 28 [.v (.slice none 0 0),.v (.slice none 0 0),.v (.slice none 0 0),.v (.slice none 0 0)]]/\c.i<=code.length/\out.length+10 * x<=100 * k+90) n ?_ ?_
    ·exact ⟨_,_,Wk.aJ ar,_,c2,rfl,rfl,i2,by simp only [aO,length_cons,length_nil];omega⟩
    ·rintro x _ _ ⟨out,c,rfl,rfl,hc,ho⟩
     cases x with
     | zero =>
      refine dF ?_;exact ⟨_,_,Wk.aJ ar,out,c,rfl,rfl,hc,by omega⟩
     | succ x =>
      have oV:decide ((0:Int) < ((x+1:Nat):Int))=true:=decide_eq_true G
      have pB:(((x+1:Nat):Int) - 1)=(x:Int):=by omega
      have h3:=db code 5 c hl hc;have r3:=cI code c (n:=5) G;have i3:=cD (code:=code) 5 hc;generalize aY code 5 c=a at *;obtain ⟨q,c3⟩:=a;simp only at h3 r3 i3;obtain ⟨q,rfl⟩:∃ q':Nat,q=(q':Int):=⟨q.toNat,by omega⟩;have hr3:=p9 (l:=oZ) (m:=q) (by show q < 5;omega);have Ae:=l8 (l:=oZ) (n:=4) aC (q:Int);generalize mT oZ (q:Int)=nq at *;refine I ?_;refine V [0] h3 ?_;rw [pB];exact ⟨x,⟨_,_,Wk.aJ ar,_,c3,rfl,rfl,i3,by simp only [aO,length_cons,length_nil];omega⟩,by omega⟩
   ·rintro _ _ ⟨out,c,rfl,rfl,hc,ho⟩;refine I ?_;exact ⟨rfl,rfl,_,_,Wk.aJ ar,_,c,rfl,rfl,hc,by simp only [aO,length_cons,length_nil];omega⟩
  ·rintro _ _ ⟨out,c,rfl,rfl,hc,ho⟩;refine bh ?_;refine I ?_;refine bU [] (DX out G) ?_;rintro _ _ ⟨rfl,p,z1,z2,hw,hn,rfl⟩;refine zaC ?_;refine iZ ?_;exact ⟨c,p,hc,by omega,hn,rfl,rfl⟩
end Go.Xg
namespace Go.Xg
open Go.RowKit Go.Xw Go.Proofs Tryz Go.Sp Go.Im
def DrR (g:GV) (Δ:List Ob):Prop:=Δ=[]/\∃ p:Src,cQ p<=1048576/\pj p/\g=.agg (av p)
attribute [local irreducible] GW GL GO YG GC GA bg bj rU xg sy
theorem CK (code:ah) (hl:code.length<=1099511627776):GC prog 27 [.sl 1 (bS code)] [] DrR:=by
 refine ai func27 ntmps27 ?_;refine bU [] (Sh code hl) ?_;rintro _ _ ⟨h,rfl,rfl⟩;refine zaC ?_;refine bU [1] (JF code hl ⟨0,h⟩ (aX _)) ?_;rintro _ _ ⟨c1,p,i1,hw,hn,rfl,rfl⟩;refine zaC ?_;refine iZ ?_;exact ⟨rfl,p,hw,hn,rfl⟩
end Go.Xg
namespace Go.Im
open Go.Xp Go.Sp
def Ld (x y:Int):Bool:=decide (x<=y)
structure Cpt (d:Array Int) (m:Nat):Prop where
 rise:jl (Go.Lib.compactUpTo d m)
 le:∀ x∈Go.Lib.compactUpTo d m,0 < m/\x<=d[m - 1]!
 mem:∀ x,x∈Go.Lib.compactUpTo d m↔∃ i,i < m/\d[i]! = x
 len:(Go.Lib.compactUpTo d m).length<=m
theorem Va {d:Array Int} {n:Nat} (hs:∀ i,i+1 < n->d[i]! <= d[i+1]!):∀ m,m<=n->Cpt d m:=by
 intro m
 induction m with
 | zero=>intro _;exact ⟨List.Pairwise.nil,fun x hx=>(by cases hx),fun x=>(by simp [Go.Lib.compactUpTo]),aH _⟩
 | succ m ih =>
  intro hm;obtain ⟨D,X,h3,h4⟩:=ih zfw;have e:=Go.Lib.compactUpTo_succ d m
  by_cases hk:Go.Lib.keeps d m=true
  ·rw [ae hk] at e
   have au:∀ x∈Go.Lib.compactUpTo d m,x < d[m]! := fun x hx=>by
    obtain ⟨h5,h6⟩:=X x hx;have h7:=hs (m - 1) zfw;rw [Nat.sub_add_cancel h5] at h7
    have:d[m]! ≠ d[m - 1]! := by
     unfold Go.Lib.keeps at hk;simp only [decide_eq_true_eq] at hk
     rcases hk with h | h
     ·omega
     ·exact h
    omega
   refine ⟨?_,fun x hx=>?_,fun x=>?_,?_⟩
   ·rw [e];unfold jl at *;rw [List.pairwise_append];exact ⟨D,by simp,fun a ha b hb=>by rw [mem_singleton] at hb;rw [hb];exact au a ha⟩
   ·rw [e,mem_append,mem_singleton] at hx;rw [Nat.add_sub_cancel]
    rcases hx with h | h
    ·have:=au x h;omega
    ·omega
   ·rw [e,mem_append,mem_singleton,h3];constructor
    ·rintro (⟨i,hi,hx⟩ | hx)
     ·exact ⟨i,by omega,hx⟩
     ·exact ⟨m,by omega,hx.symm⟩
    ·rintro ⟨i,hi,hx⟩
     by_cases him:i=m
     ·subst him;exact .inr hx.symm
     ·exact .inl ⟨i,by omega,hx⟩
   ·rw [e,aO];simp;omega
  ·rw [ab hk,ef] at e
   have hm0:0 < m:=by
    rcases Nat.eq_zero_or_pos m with h | h
    ·subst h;exact absurd (by simp [Go.Lib.keeps]) hk
    ·exact h
   have heq:d[m]! = d[m - 1]! := by
    unfold Go.Lib.keeps at hk;simp only [decide_eq_true_eq,not_or] at hk;exact Decidable.not_not.1 hk.2
   refine ⟨by rw [e];exact D,fun x hx=>?_,fun x=>?_,by rw [e];omega⟩
   ·rw [e] at hx;rw [Nat.add_sub_cancel,heq];exact ⟨by omega,(X x hx).2⟩
   ·rw [e,h3];constructor
    ·rintro ⟨i,hi,hx⟩;exact ⟨i,by omega,hx⟩
    ·rintro ⟨i,hi,hx⟩
     by_cases him:i=m
     ·subst him;exact ⟨i - 1,by omega,by rw [<-heq];exact hx⟩
     ·exact ⟨i,by omega,hx⟩
def gV (l:List Int):List Int:=l.mergeSort Ld
theorem Gd (l:List Int):(gV l).Perm l:=List.mergeSort_perm l Ld
theorem oC (l:List Int):(gV l).length=l.length:=(Gd l).length_eq
theorem vV {l:List Int} {x:Int}:x∈gV l↔x∈l:=(Gd l).mem_iff
theorem JU (l:List Int):(gV l).Pairwise (·<=·):=by
 have:=List.pairwise_mergeSort (le:=Ld) (fun a b c D X=>by unfold Ld at *;simp at *;omega) (fun a b=>by unfold Ld;simp;omega) l
 exact this.imp fun {a b} h=>by unfold Ld at h;simpa using h
theorem WO (l:List Int):Go.Lib.compact (gV l)=qW l/\(Go.Lib.compact (gV l)).length<=(gV l).length:=by
 have hs:=JU l
 have hg:∀ i,i < (gV l).length->∃ x,(gV l)[i]?=some x/\(gV l).toArray[i]! = x:=fun i hi=>⟨(gV l)[i],ct _,by simp [getElem!_pos,hi]⟩
 have h:=Va (d:=(gV l).toArray) (n:=(gV l).length) (fun i hi=>by
  rw [List.pairwise_iff_getElem] at hs;have:=hs i (i+1) zfw hi zfw
  simpa [getElem!_pos,hi,show i < (gV l).length by omega] using this) _ (aH _)
 refine ⟨DB h.rise (uz l) fun x=>?_,h.len⟩;unfold Go.Lib.compact;rw [h.mem,y5];constructor
 ·rintro ⟨i,hi,hx⟩;obtain ⟨y,hy,he⟩:=hg i hi;rw [he] at hx;subst hx;exact vV.1 (br hy)
 ·intro hx;obtain ⟨i,hi⟩:=getElem?_of_mem (vV.2 hx);have au:=(bu hi).1;obtain ⟨y,hy,he⟩:=hg i au;rw [hi] at hy;cases hy;exact ⟨i,au,he⟩
theorem U6 (p:Src) (s:List Int) (a:Nat) (t:T) (ls:List ah):(gB p s a t ls).length<=s.length+1:=by
 unfold gB;rw [aO];have:=Ec p t.n;omega
end Go.Im
namespace Go.Xg
open Go.RowKit Go.Xw Go.Proofs Tryz Go.Im
section
variable {P:Program} {m:Nat} {fr:List GV} {Γ:List Ob}
theorem Wk.keep {n j E k:Nat} {rows:List (List GV)} {x:Value} (hm:m<=n) (hnj:n<=j) (hl:uI n (Γ.take n)=true) (hlen:(Γ.take n).length=n) (bD:Γ[j]?=some (.vech E k rows x)) :
  Wk m fr Γ (w6 n fr) (Γ.take n++[.vech E k rows x]):=fun B K β w l hB hI hF=>by
 have h:=hI.cut (n:=n) G hl;obtain ⟨xs,o1,o2,o3,o4,o5⟩:=hI.ob j _ bD
 have TR:∀ b,(Bk.gr x rows.length).has b->(β j).has b:=fun b hb=>by rw [o1];exact hb
 have Hx:eN (below n) β n=.no:=ql (sP (aH n));have hold:dI (eN (below n) β) (fw (eN (below n) β) n (.gr x rows.length)):=jy (by rw [Hx];trivial)
 have cl:∀ b,(β j).has b->∀ i,¬ (eN (below n) β i).has b:=fun b hb i hi=>by
  by_cases mu:i < n
  ·rw [ij (xm mu)] at hi;have:=hI.dis i j b hi hb;omega
  ·rw [ql (sP G)] at hi;cases hi
 refine ⟨K,fw (eN (below n) β) n (.gr x rows.length),?_,(hF.res).mono (cW.refl K) hold⟩;refine ⟨h.ext,h.kle,h.ble.trans hold,h.loc,h.fz,fun i z hi=>?_,fun i hi=>?_,fun i i' b hi hj=>?_,fun i b hi=>?_,h.kn,⟨h.tab.le,h.tab.pow,h.tab.spc,fun i b hi=>?_⟩⟩
 ·by_cases uC:i < n
  ·rw [ff G] at hi;exact zcP
  ·have:i=n:=by have:=(bu hi).1;rw [aO,hlen,length_singleton] at this;omega
   subst this;rw [fA G,hlen,qt] at hi;cases hi;refine ⟨xs,bC,o2,⟨o3.1,fun a v g D X=>(o3.2 a v g D X).pc ?_⟩,o4,o5⟩;obtain ⟨r,lz,et⟩:=List.mem_flatten.1 (br X);exact (o4 r lz).2 g et
 ·rw [aO,hlen,length_singleton] at hi;rw [bO G];exact ql (sP G)
 ·by_cases D:i=n <;> by_cases X:i'=n
  ·omega
  ·subst D;rw [bC] at hi;rw [bO X] at hj;exact absurd hj (cl b (TR b hi) i')
  ·subst X;rw [bC] at hj;rw [bO D] at hi;exact absurd hi (cl b (TR b hj) i)
  ·rw [bO D] at hi;rw [bO X] at hj;exact h.dis i i' b hi hj
 ·rcases lL hi with D | D
  ·exact hI.own j b (TR b D)
  ·exact h.own i b D
 ·rcases lL hi with D | D
  ·exact hI.tab.free j b (TR b D)
  ·exact h.tab.free i b D
end
theorem Inv.renew {B:Bs} {K:Fz} {β:Bt} {Γ:List Ob} {w w':World} {i E k:Nat} {rows rows':List (List GV)} {x:Value} {xs:List Value} (h:Inv B K β Γ w) (hi:Γ[i]?=some (.vech E k rows x)) (hl:rows'.length=rows.length)
  (ho:iL w' 0 E k x rows'.length xs) (hr:bs K β xs rows'.flatten) (eU:jx k rows') (hx:Ext (fun b=>x.ownBlock=some b) w w'):Inv B K β (oset Γ i (.vech E k rows' x)) w':=by
 obtain ⟨xs0,D,X,h3,h4,h5⟩:=h.ob i _ hi
 have eH:∀ b,x.ownBlock=some b->(β i).has b:=fun b hb=>by rw [D];exact hb
 rw [bK];refine ⟨h.ext.step hx (fun j hj=>(h.own i j (eH j hj)).symm),h.kle,h.ble,h.loc,h.fz.ext hx (fun b o g hg he=>by rw [h5 b he o] at hg;cases hg),fun j y hj=>?_,fun j hj=>h.out j zfI,h.dis,h.own,h.kn,h.tab.step hx (fun j hj=>⟨i,eH j hj⟩) (cW.refl K) (fun i b2 h=>.inl ⟨i,h⟩)⟩;rw [eG] at hj;split at hj
 ·rename_i fj;split at hj
  ·cases hj;subst fj
   exact ⟨xs,by rw [hl];exact D,ho,hr,eU,h5⟩
  ·cases hj
 ·rename_i fj;exact (h.ob j y hj).ext hx (fun b hb he=>fj (h.dis i j b (eH b he) hb)) (cW.refl K) (dI.refl β) rfl (fun _ _ _ h=>h)
theorem FO (l:List Int):(aU l).flatten=l.map fun i=>GV.v (ii i):=by
 unfold aU
 induction l with
 | nil=>rfl
 | cons a l ih=>rw [List.map_cons,List.flatten_cons,ih];rfl
theorem eZ (l:List Int):(aU l).length=l.length:=by simp [aU]
theorem K7 (l:List Int):jx 1 (aU l):=fun r hr=>by
 obtain ⟨i,_,rfl⟩:=wW.1 hr;exact ⟨rfl,fun g hg=>by rw [AK hg];rfl⟩
theorem Ga {K:Fz} {β:Bt} (l:List Int):bs K β (l.map (Value.int .i64)) ((aU l).flatten):=by
 rw [FO];refine ⟨by simp,fun i v g D X=>?_⟩;rw [bp] at D X
 cases hl:l[i]? with
 | none=>rw [hl] at D;cases D
 | some z=>rw [hl] at D X;cases D;cases X;exact .v _
theorem zw {K:Fz} {β:Bt} {xs:List Value} {l:List Int} (h:bs K β xs ((aU l).flatten)):xs=l.map (Value.int .i64):=by
 rw [FO] at h;apply ext_getElem?;intro i;rw [bp]
 cases hl:l[i]? with
 | none =>
  have:=h.1;rw [cj] at this;have X:=oH hl;rw [getElem?_eq_none G];rfl
 | some z =>
  obtain ⟨v,hv,hr⟩:=h.at (i:=i) (g:=.v (ii z)) (by rw [bp,hl];rfl);rw [hv,Rel.eE hr];rfl
theorem Ko {w:World} {g q:Nat} {d:Array Int} {os:Array Obj}:Ext (fun b=>b=g) w (Go.Sort.grow (Go.Sort.putRow (Value.int .i64) (Go.Sort.ahead w q) g 0 d) os):=by
 refine ⟨rfl,rfl,rfl,by simp [Go.Sort.grow,Go.Sort.putRow,Go.Sort.mapBlock,Go.Sort.ahead],fun k hk hn=>?_⟩;simp only [Go.Sort.grow,Go.Sort.putRow,Go.Sort.mapBlock,Go.Sort.ahead];rw [Array.getElem?_append_left zfO,Array.getElem?_modify,ab G]
theorem UC {K:Fz} {β:Bt} {vs:List Value} {x:Value} (h:bs K β vs [.v x]):vs=[x]:=by
 match vs,h.1 with
 | [v],_=>rw [Rel.eE h.qd.1]
theorem NV (zs:List Int) (E:TypeId) (a:Option Addr) (c:Nat) (hz:zs.length<=1099511627776) :
  GF prog 110 [.v (.slice a zs.length c)] [.vech E 1 (aU zs) (.slice a zs.length c)] (.tup []) [.vech E 1 (aU (gV zs)) (.slice a zs.length c)]:=fun B K β w vs hm hI hF=>by
 obtain rfl:=UC hF;obtain ⟨xs,D,X,h3,h4,h5⟩:=hI.ob 0 _ rfl;have pV:=zw h3;subst pV;rw [eZ] at X
 by_cases hn:(Value.slice a zs.length c)=.slice none 0 0
 ·injection hn with e1 e2 e3
  have Py:zs=[]:=gx e2;subst Py;subst e1;refine oJ.rM (Calls.mono (slices_Sort_int_none none c w) ?_);rintro e w' ⟨he,rfl⟩;exact ⟨_,he,K,β,.tup [],_,hI,.tup [] [] rfl (fun i v g h=>by simp at h),rfl,by rw [show gV []=[] by simp [gV]]⟩
 ·obtain ⟨g,cap,hv,pR,hgw,sG,zo,hzl,hH⟩:=Go.Lib.holds_of_ownsRow X hn
  injection hv with e1 e2 e3
  subst e1;subst e3;refine oJ.rM (Calls.mono (slices_Sort_int g 0 c zs w hH hgw G) ?_);rintro e w' ⟨he,n,os,rfl⟩;have gi:=Go.Lib.ownsRow_putRow (q:=n) (k:=zs.length) (ys:=gV zs) X (oC zs) (aH _);rw [mn (by rw [oC];exact aH _)] at gi;have MD:=Go.Lib.ownsRow_grow gi 0 os;refine ⟨_,he,K,β,.tup [],_,hI.renew (i:=0) rfl (rows':=aU (gV zs)) (xs:=(gV zs).map (Value.int .i64)) (by rw [eZ,eZ,oC]) ?_ (Ga _) (K7 _) ?_,.tup [] [] rfl (fun i v g h=>by simp at h),rfl,rfl⟩
  ·rw [eZ,oC];exact MD
  ·exact (Ko (w:=w) (g:=g) (q:=n) (d:=(gV zs).toArray) (os:=os)).mono fun b _ hb=>by rw [hb];rfl
theorem S8 {K:Fz} {β:Bt} {g n c k:Nat} {rows:List (List GV)} (h:Rel K β (.slice (some ⟨g,0,none⟩) n c) (.sl k rows)) (bT:rows≠[]) :
  ∀ (i:Nat) r,rows[i]?=some r->r.length=k/\∀ (j:Nat) gg,r[j]?=some gg->K g (0+i * k+j)=some gg:=by
 generalize hv:Value.slice (some ⟨g,0,none⟩) n c=v at h
 cases h with
 | sl0 a c k=>exact absurd rfl bT
 | sl b o c k rows h hc =>
  injection hv with e1 e2 e3
  injection e1 with e1
  injection e1 with e1 e4
  subst e1;subst e4;exact h
theorem NI (zs:List Int) (E:TypeId) (a:Option Addr) (c:Nat) (hz:zs.length<=1099511627776) (xB:(Go.Lib.compact zs).length<=zs.length) :
  GC prog 111 [.v (.slice a zs.length c)] [.vech E 1 (aU zs) (.slice a zs.length c)] fun g Δ=>g=ints (Go.Lib.compact zs)/\∃ fz S,Δ=[.vec E 1 fz S]:=fun B K β w vs hm hI hF=>by
 obtain rfl:=UC hF;obtain ⟨xs,D,X,h3,h4,h5⟩:=hI.ob 0 _ rfl;have pV:=zw h3;subst pV;rw [eZ] at X
 by_cases Py:zs=[]
 ·subst Py;refine oJ.rM (Calls.mono (slices_Compact_int_empty a c w) ?_);rintro e w' ⟨he,rfl⟩;exact ⟨_,he,K,β,ints [],_,hI.AG (i:=0) rfl,.sl0 a c 1,rfl,_,_,rfl⟩
 ·have hn:(Value.slice a zs.length c)≠.slice none 0 0:=fun hn=>by
   injection hn with e1 e2 e3
   exact Py (gx e2)
  obtain ⟨g,cap,hv,pR,hgw,sG,zo,hzl,hH⟩:=Go.Lib.holds_of_ownsRow X hn
  injection hv with e1 e2 e3
  subst e1;subst e3;refine oJ.rM (Calls.mono (slices_Compact_int g 0 c zs w hH G sG) ?_);rintro e w' ⟨he,q,rfl⟩;generalize hcz:Go.Lib.compact zs=cz at *;generalize hys:cz++List.replicate (zs.length - cz.length) (0:Int)=ys at *
  have Un:ys.length=zs.length:=by rw [<-hys,aO,List.length_replicate];omega
  have gi:=Go.Lib.ownsRow_putRow (q:=q) (k:=zs.length) (ys:=ys) X Un (aH _);rw [mn G] at gi;have ua:=hI.renew (i:=0) rfl (rows':=aU ys) (xs:=ys.map (Value.int .i64)) (w':=Go.Sort.putRow (Value.int .i64) (Go.Sort.ahead w q) g 0 ys.toArray) (by rw [eZ,eZ,Un]) (by rw [eZ,Un];exact gi) (Ga _) (K7 _)
   (by
    have:=(Ko (w:=w) (g:=g) (q:=q) (d:=ys.toArray) (os:=#[]));rw [Go.Sort.grow_empty] at this
    exact this.mono fun b _ hb=>by rw [hb];rfl)
  obtain ⟨K',hK,hr,Xi⟩:=ua.rh (i:=0) rfl;refine ⟨_,he,K',β,ints cz,_,Xi,?_,rfl,_,_,rfl⟩
  have mw:zs.length=(aU ys).length:=by rw [eZ,Un]
  rw [mw] at hr;have Xu:=S8 hr (fun e=>Py (gx (by rw [mw,e];rfl)))
  have Xv:cz.length=(cz.map fun i=>[GV.v (ii i)]).length:=by simp
  rw [Xv];refine .sl g 0 c 1 _ (fun i r h=>?_) (by rw [<-Xv];omega);refine Xu i r ?_;have hi:=(bu h).1;rw [cj] at hi;rw [<-hys];unfold aU;rw [mo,ff (by rw [cj];exact hi)];exact h
open Go.Xp (Nd T)
open Go.Sp (Src)
attribute [local irreducible] GW GL GO YG GC GA bg bj
theorem Wf (p:Src) (a:Nat) (n:Nd) (l:List T) (ls:List ah) (s:List Int) (E1:TypeId) (eb:Option Addr) (ec:Nat) (ad:Option Addr) (cp:Nat) (hn:p.nodes[a]?=some n) (kr:p.fns.length<=1099511627776) (hs:s.length<=1048576000) :
  GC prog 108 [.v (ii (a:Nat)),.v (.slice ad ls.length cp),.box (av p) 0,.loc 0 0] [.box E1 [.v (.slice eb s.length ec)],.vech 3 1 (aU s) (.slice eb s.length ec),.vech 9 1 (bW ls) (.slice ad ls.length cp)] fun g Δ=>g=.tup []/\∃ zf zg,
   Δ=[.box E1 [.v (.slice zf (gB p s a (.mk n l) ls).length zg)],.vech 3 1 (aU (gB p s a (.mk n l) ls)) (.slice zf (gB p s a (.mk n l) ls).length zg),.vech 9 1 (bW ls) (.slice ad ls.length cp)]:=by
 have hr:=ma hn;have rG:=eZ s;have hA:=OR p n.s kr;have e0:cx (fun x:Go.Sp.Fn=>x.name==n.s) p.fns=qj p n.s:=rfl;rw [e0] at hA;have e:gB p s a (.mk n l) ls=s++(if n.kind=4/\0<=qj p n.s then [qj p n.s] else []):=rfl;rw [e];unfold aW at hr;generalize qj p n.s=z at *
 cases D:(n.kind==4) with
 | false =>
  rw [ab (fun h=>by rw [h.1] at D;cases D),ef];exact zbE
 | true =>
  cases X:decide ((0:Int)<=z) with
  | false =>
   rw [ab (fun h=>by have:=of_decide_eq_false X;exact this h.2),ef];exact zbE
  | true =>
   rw [ae ⟨by simpa using D,by simpa using X⟩];refine ai func108 ntmps108 ?_;refine aM (ay 0 7 (.a 7 (.q 8 .nil))) ?_;refine ak ?_;refine aB [] hA ?_;refine zah ?_;intro vd vh;refine za2 ?_;refine dN ?_;exact ⟨rfl,vd,vh,by simp [aU]⟩
open GV (U)
open Go.Xp (bc aD eC)
def IY (p:Src):GV:=.fn (.func 108) [] [.box (av p) 0,.loc 0 0]
def UK (p:Src):GV:=.fn (.func 167) [] [.loc 2 0,.loc 3 0,.box (av p) 0,.loc 4 0]
def UD (E1:TypeId) (s:List Int) (eb:Option Addr) (ec:Nat):List Ob:=[.box E1 [.v (.slice eb s.length ec)],.vech 3 1 (aU s) (.slice eb s.length ec)]
def F7 (p:Src) (E1 E2 E3 E4:TypeId) (s:List Int) (ls:List ah) (ad:Option Addr) (cp:Nat) (eb:Option Addr) (ec:Nat):List Ob :=
 [.box E1 [.v (.slice eb s.length ec)],.vech 3 1 (aU s) (.slice eb s.length ec),.box E2 [IY p],.box E3 [.v (.slice ad ls.length cp)],.box E4 [UK p],.vech 9 1 (bW ls) (.slice ad ls.length cp)]
theorem Tk (p:Src) (E1 E2 E3 E4:TypeId) (hp:p.nodes.length<=1048576) (fC:∀ n∈p.nodes,n.kids.length<=1099511627776) (kr:p.fns.length<=1099511627776):∀ (N:Nat) (t:T),bc t<=N->∀ (a:Nat) (s:List Int) (ls:List ah) (ad:Option Addr) (cp:Nat) (eb:Option Addr) (ec:Nat),fi p.nodes a t->ls.length+bc t<=8388608->s.length+bc t<=8388608 ->
  GC prog 167 [.v (ii (a:Nat)),.loc 2 0,.loc 3 0,.box (av p) 0,.loc 4 0] (F7 p E1 E2 E3 E4 s ls ad cp eb ec) fun g Δ=>g=.tup []/\∃ sB sD zf zg,Δ=F7 p E1 E2 E3 E4 (km (gB p) t a s ls).1 (km (gB p) t a s ls).2 sB sD zf zg:=by
 intro N
 induction N with
 | zero=>intro t h;exact zeB
 | succ N ih =>
 intro t hN a s ls ad cp eb ec cU oS sJ
 cases t with
 | mk n l =>
 rw [Go.Xp.bc] at hN oS sJ;have X3:=cU;rw [fi] at cU;obtain ⟨hn,hk,rG⟩:=cU;rw [km];have hr:=ma hn;have qw:=fC n (br hn);have ht:=Wf p a n l ls s E1 eb ec ad cp hn kr G;have acB:((gB p) s a (.mk n l) ls).length<=s.length+1:=U6 _ _ _ _ _;generalize lX:(gB p) s a (.mk n l) ls=s1 at *
 have Db:n.kids.length=l.length:=by rw [hk,eC]
 unfold aW at hr;unfold F7 IY UK;refine ai func167 ntmps167 ?_;refine GL.yo [0,1,5] ht rfl rfl rfl (by repeat (first | exact trivial | refine ⟨rfl,?_⟩)) ?_;rintro _ _ ⟨rfl,eb,ec,rfl⟩;refine zaC ?_;refine GW.range (n.kids.map fun i=>[GV.v (ii i)]).length (fun k fr Γ=>∃ sB sD zf zg,fr=[.v (ii (a:Nat)),.loc 2 0,.loc 3 0,.box (av p) 0,.loc 4 0,U,U,U,U,U,U,U,U,U,U,U,U,ints n.kids,.v (ii ((n.kids.map fun i=>[GV.v (ii i)]).length:Int)),.v (ii (k:Nat)),U,U,U,U,U,U,U,U,U,U,U,U,U,U,U,U,U,U,U,U,U,U,U]/\Γ=F7 p E1 E2 E3 E4 (eT (gB p) (l.take k) (a+1) s1 ls).1 (eT (gB p) (l.take k) (a+1) s1 ls).2 sB sD zf zg) ?_ zfU ?_ ?_ ?_
 ·exact ⟨_,_,Wk.aJ ar,ad,cp,eb,ec,rfl,rfl⟩
 ·rintro k _ _ ⟨ad,cp,eb,ec,rfl,rfl⟩;exact ea
 ·rintro k _ _ au ⟨ad,cp,eb,ec,rfl,rfl⟩;rw [cj,Db] at au;obtain ⟨u,hu⟩:∃ u,l[k]?=some u:=⟨l[k],by simp [au]⟩;have qS:=An (n:=a+1) hu;rw [<-hk] at qS;have vz:=qm qS;have dR:=tz hu;have X4:fi p.nodes (a+1+aD (l.take k)) u:=eg.ix l (a+1) k u rG hu
  have hlen:(eT (gB p) (l.take k) (a+1) s1 ls).2.length<=ls.length+aD (l.take k):=by
   rw [sS,aO];have:=wT (l.take k);omega
  have MC:(eT (gB p) (l.take k) (a+1) s1 ls).1.length<=s1.length+aD (l.take k):=by
   rw [He,aO];have:=G4 p (l.take k);omega
  rw [Hc _ hu];generalize (eT (gB p) (l.take k) (a+1) s1 ls).1=s2 at *;generalize (eT (gB p) (l.take k) (a+1) s1 ls).2=ls2 at *;have hv:=ih u G (a+1+aD (l.take k)) s2 ls2 ad cp eb ec X4 G G;unfold F7 IY UK at hv |-;refine I ?_;refine GL.yo [0,1,2,3,4,5] hv rfl rfl rfl (by repeat (first | exact trivial | refine ⟨rfl,?_⟩)) ?_;rintro _ _ ⟨rfl,sB,sD,zf,zg,rfl⟩;refine zaC ?_;exact ⟨rfl,rfl,_,_,Wk.aJ ar,sB,sD,zf,zg,rfl,rfl⟩
 ·rintro _ _ ⟨ad,cp,eb,ec,rfl,rfl⟩;rw [cj,Db,di]
  have hlen:(eT (gB p) l (a+1) s1 ls).2.length<=ls.length+aD l:=by
   rw [sS,aO];have:=wT l;omega
  generalize (eT (gB p) l (a+1) s1 ls).1=s2 at *;generalize (eT (gB p) l (a+1) s1 ls).2=ls2 at *;have BJ:(bW ls2).length=ls2.length:=yc ls2;unfold F7 IY UK;refine bh ?_
  cases hv:(n.kind==13) with
  | false =>
   rw [ab zf8];refine I ?_;refine dN ?_;exact ⟨rfl,ad,cp,eb,ec,rfl⟩
  | true =>
   refine zeR ?_;refine OA rfl rfl (GL.pk 5 (news:=[[.v (sv n.s)]]) rfl rfl rfl az rfl rfl (by refine ⟨?_,?_⟩;(· show _+1<=_;omega);(· show (_+1) * _<=_;omega)) ?_);intro vd vh;refine zbI ?_;refine dN ?_;exact ⟨rfl,vd,vh,eb,ec,by simp [bW]⟩
theorem Vc (p:Src) (E1:TypeId) (i:Nat) (f:Go.Sp.Fn) (t:T) (s:List Int) (eb:Option Addr) (ec:Nat) (hp:p.nodes.length<=1048576) (fC:∀ n∈p.nodes,n.kids.length<=1099511627776) (kr:p.fns.length<=1099511627776)
  (hf:p.fns[i]?=some f) (Af:f.params.length<=1048576) (hb:0<=f.body) (cU:fi p.nodes f.body.toNat t) (dR:bc t<=1048576) (hs:s.length+bc t<=8388608) :
  GC prog 101 [.agg (av p),.v (ii (i:Nat)),IY p] (UD E1 s eb ec) fun g Δ=>g=.tup []/\∃ zf zg,Δ=UD E1 (km (gB p) t f.body.toNat s f.params).1 zf zg:=by
 have hr:(p.fns.map ax)[i]?=some (ax f):=by rw [bp,hf];rfl
 have c8:(f.params.map fun s=>[GV.v (sv s)]).length=f.params.length:=by simp
 have iF:=Il f.params;obtain ⟨b,zX⟩:∃ b:Nat,f.body=(b:Int):=⟨f.body.toNat,by omega⟩;rw [zX,jR] at cU |-;unfold ax at hr;rw [zX] at hr;unfold IY UD;refine ei func101 ntmps101 ?_;refine lj ?_;refine GL.wk (Wk.freeze (i:=2) rfl rfl rfl (aH _)) ?_;refine GN zgl ?_;refine GL.wk (Wk.aJ (cX:=[U,.v (ii (i:Nat)),U,.box (av p) 0,U,.loc 3 0,U,U,U,U,U,U,U,strs f.params,U,U,U,U,U,U,U,U,U,U]) ar) ?_;refine GL.wk (Wk.ln 9 1) ?_;refine GL.Gt 4 rfl rfl rfl rfl iF (by refine ⟨?_,?_⟩;(· rw [c8];omega);(· rw [c8];omega)) ?_;intro ad cp;rw [c8];refine zcj ?_;refine GW.OD (cX:=[U,.v (ii (i:Nat)),U,.box (av p) 0,U,.loc 3 0,.loc 5 0,.loc 6 0,U,U,U,U,U,U,U,U,U,U,U,U,U,U,U,U]) (aV:=[.box E1 [.v (.slice eb s.length ec)],.vech 3 1 (aU s) (.slice eb s.length ec),.gone,.box _ [.fn (.func 108) [] [.box (av p) 0,.loc 0 0]],.vech 9 1 (bW f.params) (.slice ad f.params.length cp),.box _ [.v (.slice ad f.params.length cp)],.box _ [.fn (.func 167) [] [.loc 3 0,.loc 5 0,.box (av p) 0,.loc 6 0]]]) ar rfl ?_;refine aM (ay 0 7 (.a 7 .nil)) ?_;refine ak ?_;have hv:=Tk p E1;refine OA rfl rfl (GL.yo [0,1,3,5,6,4] (hv _ _ _ hp fC kr _ t (aH _) b s f.params ad cp eb ec cU G hs) rfl rfl rfl (by repeat (first | exact trivial | refine ⟨rfl,?_⟩)) ?_);rintro _ _ ⟨rfl,sB,sD,zf,zg,rfl⟩;refine ⟨by simp [F7],?_⟩;unfold F7;refine zbI ?_;refine dN ?_;exact ⟨rfl,zf,zg,rfl⟩
end Go.Xg
namespace Go.Im
open Go.Xp Go.Sp
def nI (p:Src) (l:List T) (x:Int):List Int:=match l[x.toNat]? with | some t=>cv p t | none=>[]
theorem Ed (p:Src) (l:List T) (x:Int):∀ y∈nI p l x,0<=y/\y < (p.fns.length:Int):=by
 intro y hy;unfold nI at hy;split at hy
 ·exact pe p _ y hy
 ·simp at hy
structure Trail (p:Src) (L:List Int):Prop where
 nodup:L.Nodup
 rng:∀ y∈L,0<=y/\y < (p.fns.length:Int)
theorem Trail.len {p:Src} {L:List Int} (h:Trail p L):L.length<=p.fns.length:=F1 h.nodup h.rng
theorem Trail.add {p:Src} {L ks:List Int} (h:Trail p L) (hk:∀ y∈ks,0<=y/\y < (p.fns.length:Int)):Trail p (addN L ks) :=
 ⟨uJ h.nodup,fun y hy=>by
  rcases jX.1 hy with D | D
  ·exact h.rng y D
  ·exact hk y D⟩
def rV (p:Src) (l:List T) (L:List Int):List Int:=nH (nI p l) (p.fns.length+1) 0 L
theorem G0 {cs:Int->List Int} {f i:Nat} {L:List Int} {x:Int} (h:L[i]?=some x):nH cs (f+1) i L=nH cs f (i+1) (addN L (cs x)):=by rw [nH,h]
theorem G1 {cs:Int->List Int} {f i:Nat} {L:List Int} (h:L.length<=i):nH cs f i L=L:=by
 cases f with
 | zero=>rfl
 | succ f=>rw [nH,getElem?_eq_none h]
theorem D5 {p:Src} {l:List T}:∀ (f i:Nat) (L:List Int),Trail p L->Trail p (nH (nI p l) f i L)
 | 0,i,L,h=>h
 | f+1,i,L,h=>by
  rw [nH];split
  ·exact h
  ·exact D5 f (i+1) _ (h.add (Ed p l _))
theorem zH {l:List Int} {k:Nat} {x n:Int} (h:l[k]?=some x) (hc:(l.take k).contains n=false) (hx:(x==n)=false):(l.take (k+1)).contains n=false:=by
 rw [dh,h];simp only [List.contains_eq_mem,decide_eq_false_iff_not,mem_append,not_or] at *;refine ⟨hc,?_⟩;simp only [Option.toList_some,mem_singleton];intro e;subst e;simp at hx
theorem G6 {l:List Int} {k:Nat} {x n:Int} (h:l[k]?=some x) (hx:(x==n)=true):l.contains n=true:=by
 have:x=n:=by simpa using hx
 subst this;exact dz.2 (br h)
theorem VX {l:List Int} {n:Int} (h:l.contains n=true):ke l n=l:=by unfold ke;rw [ae h]
theorem zi:∀ (ks l:List Int),(ks.foldl ke l).length<=l.length+ks.length
 | [],l=>by simp
 | k::r,l=>by
  have:=zi r (ke l k);have:=SR (l:=l) (n:=k);rw [List.foldl_cons,length_cons];omega
end Go.Im
namespace Go.Xg
open Go.RowKit Go.Xw Go.Proofs Tryz Go.Im
open GV (U)
open Go.Xp (T)
open Go.Sp (Src)
attribute [local irreducible] GW GL GO YG GC GA bg bj
theorem AO (p:Src) (hw:cQ p<=1048576) {l:List T} {i:Nat} {f:Go.Sp.Fn} {t:T} (h:tR p l i f t) :
  GF prog 53 [.agg (av p),.v (ii (i:Nat))] [] (ints (cv p t)) []:=by
 obtain ⟨⟨a1,a2⟩,⟨b1,b2⟩,⟨c1,c2⟩,⟨d1,d2⟩⟩:=gn p;have dR:=h.sz;have xB:=Oi p _ t (aH _)
 have hE:=fun eb ec=>Vc p 36 i f t [] eb ec G (fun n hn=>by have:=(d2 n hn).2;omega) G h.gf (by have:=(c2 f (br h.gf)).2.1;omega) h.body h.st G (by show 0+_<=_;omega)
 rw [TA,nil_append] at hE;obtain ⟨e1,e2⟩:=WO (qM p t)
 have hS:=fun a c=>NV (qM p t) 3 a c G
 have hC:=fun a c=>NI (gV (qM p t)) 3 a c (by rw [oC];omega) e2
 rw [e1] at hC;rw [oC] at hC;unfold IY UD at hE;unfold cv;generalize qW (qM p t)=rr at *;generalize gV (qM p t)=ss at *;refine ei func53 ntmps53 ?_;refine GW.wk (Wk.ln 3 1) ?_;simp only [nil_append];refine lj ?_;refine GL.wk (Wk.freeze (i:=1) rfl rfl rfl (aX _)) ?_;refine zaS ?_;refine bU [2,0] (hE none 0) ?_;rintro _ _ ⟨rfl,eb,ec,rfl⟩;refine zaC ?_;refine V [0] (hS eb ec) ?_;refine bU [0] (hC eb ec) ?_;rintro _ _ ⟨rfl,fz,S,rfl⟩;refine cV ?_;exact aw
theorem Fq (p:Src) (hw:cQ p<=1048576) {l:List T} (hg:Go.Im.Good p l) (L0:List Int) (hL:Trail p L0) :
  GF prog 73 [.agg (av p),ints L0] [] (ints (gV (rV p l L0))) []:=by
 obtain ⟨⟨a1,a2⟩,⟨b1,b2⟩,⟨c1,c2⟩,⟨d1,d2⟩⟩:=gn p;have hlen:=hg.len;have wy:=hL.len
 have c8:(L0.map fun i=>[GV.v (ii i)]).length=L0.length:=by simp
 have iF:=Ik L0;obtain ⟨N,hN⟩:∃ N,p.fns.length=N:=⟨_,rfl⟩;refine ei func73 ntmps73 ?_;refine GW.wk (Wk.ln 3 1) ?_;simp only [nil_append];refine I ?_;refine GL.Gt 0 rfl rfl rfl rfl iF (by refine ⟨?_,?_⟩;(· rw [c8];omega);(· rw [c8];omega)) ?_;intro ad cp;rw [c8];refine zcj ?_;refine GW.loop (fun s:Nat × List Int=>N - s.1) (fun s fr Γ=>∃ a c n S,fr=[U,U,.loc 1 0,U,U,.v (.slice a n c),.v (ii (s.1:Nat)),U,U,U,U,U,U,U,U,U,U,U,U,U,U,U,U,U,U,U,U,U,U,U,U,U,U,U,U,U,U,U,U,U]/\Γ=[.vech 3 1 S (.slice a n c),.box 28 (av p)]/\S.length=n/\S=aU s.2/\Trail p s.2/\s.1<=s.2.length/\nH (nI p l) (N+1 - s.1) s.1 s.2=rV p l L0) (0,L0) ?_ ?_
 ·exact ⟨_,_,Wk.aJ ar,ad,cp,_,_,rfl,rfl,c8,rfl,hL,aX _,by rw [<-hN];rfl⟩
 rintro ⟨i,L⟩ _ _ ⟨a,c,n,S,rfl,rfl,lU,hS,hW,hi,he⟩;simp only at hS hW hi he;have qx:=hW.len
 have sH:n=L.length:=by rw [<-lU,hS,eZ]
 by_cases au:i < L.length
 ·have hd:decide ((i:Int) < (n:Int))=true:=decide_eq_true G;obtain ⟨x,hx⟩:∃ x,L[i]?=some x:=⟨L[i],by simp [au]⟩
  have hrx:S[i]?=some [.v (ii x)]:=by rw [hS];unfold aU;rw [bp,hx];rfl
  have rH:=hW.rng x (br hx);obtain ⟨j,hj⟩:∃ j:Nat,x=(j:Int):=⟨x.toNat,by omega⟩;subst hj
  have oR:j < p.fns.length:=by omega
  obtain ⟨f,hf⟩:∃ f,p.fns[j]?=some f:=⟨p.fns[j],by simp [oR]⟩;obtain ⟨t,ht⟩:∃ t,l[j]?=some t:=⟨l[j]'G,ct _⟩;have hC:=AO p hw (hg.fn hf ht)
  have iT:nI p l (j:Int)=cv p t:=by unfold nI;rw [jR,ht]
  have oT:nH (nI p l) (N+1 - (i+1)) (i+1) (addN L (cv p t))=rV p l L0:=by
   exact zfp
  have vr:=pe p t;have fC:=Bx p t
  have Po:((cv p t).map fun i=>[GV.v (ii i)]).length=(cv p t).length:=by simp
  have Dd:i+1<=(addN L (cv p t)).length:=by
   obtain ⟨m,hm⟩:=yj (cv p t) L;rw [hm,aO];omega
  generalize cv p t=ks at *;refine I ?_;refine aM (ay 0 5 (.q 7 (.a 5 (.q 6 .nil)))) ?_;refine ak ?_;refine aB [] hC ?_;refine I ?_;refine GW.range (ks.map fun i=>[GV.v (ii i)]).length (fun k fr Γ=>∃ a c n S,fr=[U,U,.loc 1 0,U,U,.v (.slice a n c),.v (ii (i:Nat)),U,U,U,U,U,U,U,U,U,U,U,U,U,U,U,ints ks,.v (ii ((ks.map fun i=>[GV.v (ii i)]).length:Int)),.v (ii (k:Nat)),U,U,U,U,U,U,U,U,U,U,U,U,U,U,U]/\Γ=[.vech 3 1 S (.slice a n c),.box 28 (av p)]/\S.length=n/\S=aU (addN L (ks.take k))) ?_ G ?_ ?_ ?_
  ·exact ⟨_,_,Wk.aJ ar,a,c,n,S,rfl,rfl,lU,hS⟩
  ·rintro k _ _ ⟨a,c,n,S,rfl,rfl,_⟩;exact ea
  ·rintro k _ _ hk ⟨a,c,n,S,rfl,rfl,lU,hS⟩;rw [Po] at hk;obtain ⟨y,hy⟩:∃ y,ks[k]?=some y:=⟨ks[k],by simp [hk]⟩
   have hry:(ks.map fun i=>[GV.v (ii i)])[k]?=some [.v (ii y)]:=by rw [bp,hy];rfl
   have Xl:=hW.add (ks:=ks.take k) fun y hy=>vr y (List.mem_of_mem_take hy)
   have hWl:=Xl.len
   have C3:GF prog 52 [.sl 1 S,.v (ii y)] [] (.v (.bool ((addN L (ks.take k)).contains y))) []:=by
    rw [hS];exact qI (addN L (ks.take k)) y G
   have R1:=Fg L ks k y hy
   have wz:n<=1048576:=by rw [<-lU,hS,eZ];omega
   rw [R1]
   cases hb:(addN L (ks.take k)).contains y with
   | true =>
    rw [hb] at C3;rw [ae rfl];refine I ?_;refine GL.borrow C3 (fun B K β w l hI hF=>jG (A:=[]) (C:=[_]) hI hF rfl rfl) ?_;refine zaS ?_;exact ⟨rfl,rfl,_,_,Wk.aJ ar,a,c,n,S,rfl,rfl,lU,hS⟩
   | false =>
    rw [hb] at C3;rw [ab aC]
    have ue:aU (addN L (ks.take k)++[y])=S++[[.v (ii y)]]:=by rw [hS];simp [aU]
    rw [ue];clear hS;refine I ?_;refine GL.borrow C3 (fun B K β w l hI hF=>jG (A:=[]) (C:=[_]) hI hF rfl rfl) ?_;refine zaS ?_;refine GL.hO 0 rfl rfl rfl rfl rfl rfl rfl rfl az kO ?_;intro a2 c2;refine za2 ?_;exact zer
  ·rintro _ _ ⟨a,c,n,S,rfl,rfl,lU,hS⟩;rw [Po,di] at hS;refine iQ (bh ?_);refine I ?_;exact ⟨(i+1,addN L ks),⟨_,_,Wk.aJ ar,a,c,n,S,rfl,rfl,lU,hS,hW.add vr,Dd,oT⟩,by show N - (i+1) < N - i;omega⟩
 ·have hd:decide ((i:Int) < (n:Int))=false:=decide_eq_false G;have hb:=G1 (cs:=nI p l) (f:=N+1 - i) (i:=i) (L:=L) G;rw [hb] at he;rw [<-he];have hSo:=NV L 3 a c G;rw [<-sH,<-hS] at hSo
  have rG:(aU (gV L)).length=n:=by rw [eZ,oC,sH]
  refine za1 ?_;refine V [0] hSo ?_;refine GW.wk (Wk.Bd (t:=4) (i:=0) rfl rfl rfl) ?_;exact al
theorem Sr (l:List Int) (n:Int) (a:Option Addr) (c:Nat) (hl:l.length<=8388608) :
  GC prog 177 [.v (.slice a l.length c),.v (ii n)] [.vech 3 1 (aU l) (.slice a l.length c)] fun g Δ =>
   (l.contains n=true/\g=.v (.slice a l.length c)/\Δ=[.vech 3 1 (aU l) (.slice a l.length c)]) \/
   (l.contains n=false/\∃ a' c',g=.v (.slice a' (ke l n).length c')/\Δ=[.vech 3 1 (aU l) (.slice a l.length c),.vech 3 1 (aU (ke l n)) (.slice a' (ke l n).length c')]):=by
 have qx:=eZ l;refine ai func177 ntmps177 ?_;refine n7 ?_;refine GL.xa (t:=9) rfl rfl rfl rfl ?_;intro a1 c1;refine za2 ?_;refine GW.range l.length (fun k fr Γ=>∃ a1 c1 m dn S,fr=[.v (.slice a l.length c),.v (ii n),U,U,U,.v (.slice a1 m c1),.v (.bool dn),U,U,U,.v (.slice a l.length c),.v (ii (l.length:Int)),.v (ii (k:Nat)),U,U,U,U,U,U,U,U,U,U,U,U,U,U,U,U,U,U,U,U,U,U,U,U,U,U,U,U,U,U]/\Γ=[.vech 3 1 (aU l) (.slice a l.length c),.vech 3 1 S (.slice a1 m c1)]/\S.length=m/\S=aU (lq l n k).1/\dn=(lq l n k).2/\(l.take k).contains n=false) ?_ G ?_ ?_ ?_
 ·exact ⟨_,_,Wk.aJ ar,a1,c1,0,false,[],rfl,rfl,rfl,rfl,rfl,rfl⟩
 ·rintro k _ _ ⟨a1,c1,m,dn,S,rfl,rfl,_⟩;exact ea
 ·rintro k _ _ au ⟨a1,c1,m,dn,S,rfl,rfl,zm,hS,KJ,hc⟩;obtain ⟨x,hx⟩:∃ x,l[k]?=some x:=⟨l[k],by simp [au]⟩
  have hr:(aU l)[k]?=some [.v (ii x)]:=by unfold aU;rw [bp,hx];rfl
  have fC:k < (aU l).length:=by omega
  have hm:m<=8388609:=by
   have:=(Iu l n k).1;rw [<-zm,hS,eZ];omega
  have oT:=F9 (n:=n) hx
  cases D:(x==n) with
  | true =>
   refine zdm ?_;exact rl (n:=1) rfl dO rfl (dP rfl) rfl rfl (.inl ⟨G6 hx D,rfl,rfl⟩)
  | false =>
   have jH:=zH hx hc D
   cases dn with
   | true =>
    have e:lq l n (k+1)=((lq l n k).1++[x],true):=by rw [oT];unfold qF;rw [<-KJ];rfl
    have ue:aU (lq l n (k+1)).1=S++[[.v (ii x)]]:=by rw [e,hS];simp [aU]
    clear hS;refine zah ?_;intro a2 c2;refine za2 ?_;exact ⟨rfl,rfl,_,_,Wk.aJ ar,a2,c2,_,true,_,rfl,rfl,by simp [zm],ue.symm,by rw [e],jH⟩
   | false =>
    cases h3:decide (n < x) with
    | true =>
     have e:lq l n (k+1)=((lq l n k).1++[n]++[x],true):=by rw [oT];unfold qF;rw [<-KJ,h3];rfl
     have ue:aU (lq l n (k+1)).1=(S++[[.v (ii n)]])++[[.v (ii x)]]:=by rw [e,hS];simp [aU]
     have hSl:(S++[[GV.v (ii n)]]).length=m+1:=by rw [aO,zm];rfl
     clear hS;refine zah ?_;intro a2 c2;refine cY ?_;refine zah ?_;intro a3 c3;refine za2 ?_;exact ⟨rfl,rfl,_,_,Wk.aJ ar,a3,c3,_,true,_,rfl,rfl,by simp [zm],ue.symm,by rw [e],jH⟩
    | false =>
     have e:lq l n (k+1)=((lq l n k).1++[x],false):=by rw [oT];unfold qF;rw [<-KJ,h3];rfl
     have ue:aU (lq l n (k+1)).1=S++[[.v (ii x)]]:=by rw [e,hS];simp [aU]
     clear hS;refine zah ?_;intro a2 c2;refine za2 ?_;exact ⟨rfl,rfl,_,_,Wk.aJ ar,a2,c2,_,false,_,rfl,rfl,by simp [zm],ue.symm,by rw [e],jH⟩
 ·rintro _ _ ⟨a1,c1,m,dn,S,rfl,rfl,zm,hS,KJ,hc⟩;rw [di] at hc;have rm:=SU l n hc
  have hm:m<=8388609:=by
   have:=(Iu l n l.length).1;rw [<-zm,hS,eZ];omega
  refine bh ?_
  cases dn with
  | true =>
   rw [ae KJ.symm] at rm
   have e:m=(ke l n).length:=by rw [<-zm,hS,eZ,rm]
   subst e;rw [rm] at hS;subst hS;refine zdm ?_;exact rl (n:=2) rfl dO rfl (dP rfl) rfl rfl (.inr ⟨hc,a1,c1,rfl,rfl⟩)
  | false =>
   rw [ab (by rw [<-KJ];decide)] at rm
   have ue:aU (ke l n)=S++[[.v (ii n)]]:=by rw [<-rm,hS];simp [aU]
   have e:(ke l n).length=m+1:=by rw [<-eZ,ue,aO,zm];rfl
   rw [ue,e];clear hS;subst zm;refine zah ?_;intro a2 c2;refine za2 ?_;refine n8 ?_;exact rl (n:=2) rfl dO rfl (dP rfl) rfl rfl (.inr ⟨hc,a2,c2,rfl,rfl⟩)
end Go.Xg
