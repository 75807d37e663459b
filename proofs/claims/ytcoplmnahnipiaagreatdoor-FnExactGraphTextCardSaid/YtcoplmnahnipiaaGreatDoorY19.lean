/- Part 19 of proofs that are told in their last texts. -/
import Derived.Test.YtcoplmnahnipiaaGreatDoorY40
import Derived.Test.YtcoplmnahnipiaaGreatDoorY10
import Derived.Test.YtcoplmnahnipiaaGreatDoorY6
open List (getElem?_map length_append length_cons length_nil mem_of_getElem? take_length take_succ_cons)
set_option linter.unusedVariables false
set_option linter.unusedSimpArgs false
set_option maxRecDepth 100000
set_option maxHeartbeats 4000000
namespace Go.Im
open Go.Xp Go.Sp
def qP (p:Src) (x:Int):ah:=match p.fns[x.toNat]? with | some f=>f.name | none=>[]
def ux (p:Src) (acc:ah) (ks:List Int):ah:=ks.foldl (fun s x=>s++([32]++qP p x)) acc
theorem Dh (p:Src) (acc:ah) {ks:List Int} {k:Nat} {x:Int} (h:ks[k]?=some x):ux p acc (ks.take (k+1))=ux p acc (ks.take k)++([32]++qP p x):=by
 unfold ux;rw [List.take_add_one,h,List.foldl_append];rfl
def ud (p:Src) (acc:ah) (f:Go.Sp.Fn) (ks:List Int):ah:=ux p (acc++(f.name++[58])) ks++[10]
def uI (p:Src):List Go.Sp.Fn->List T->ah->ah
 | f::r,t::l,acc=>uI p r l (ud p acc f (aX p t))
 | _,_,acc=>acc
theorem uo (p:Src):∀ {fs:List Go.Sp.Fn} {l:List T} {k:Nat} {f:Go.Sp.Fn} {t:T} (acc:ah),fs[k]?=some f->l[k]?=some t->uI p (fs.take (k+1)) (l.take (k+1)) acc=ud p (uI p (fs.take k) (l.take k) acc) f (aX p t)
 | g::r,u::l,0,f,t,acc,h1,h2=>by cases h1;cases h2;simp [uI]
 | g::r,u::l,k+1,f,t,acc,h1,h2=>by
  have:=uo p (fs:=r) (l:=l) (k:=k) (ud p acc g (aX p u)) (by simpa using h1) (by simpa using h2);rw [take_succ_cons,take_succ_cons,uI,this,take_succ_cons,take_succ_cons,uI]
 | [],_,k,f,t,acc,h1,h2=>by simp at h1
 | g::r,[],k,f,t,acc,h1,h2=>by simp at h2
def tE (p:Src) (l:List T) (k:Nat):ah:=uI p (p.fns.take k) (l.take k) []
def GZ (p:Src):ah:=if eo p=true then (match gW p.nodes p.fns 0 [] with | some (l,_)=>uI p p.fns l [] | none=>[]) else []
theorem Fj {p:Src} (h:eo p=true):p.fns.length<=40:=by
 unfold eo at h;rw [Bool.and_eq_true] at h;obtain ⟨hf,h⟩:=h;obtain ⟨l,hl⟩:=qZ hf;rw [hl.zj] at h;simp only [decide_eq_true_eq] at h;unfold Bf at h;split at h
 ·cases h
 split at h
 ·cases h
 rename_i h2
 have h3:fO p=false:=by simpa using h2
 unfold fO at h3;simp only [Bool.or_eq_false_iff,decide_eq_false_iff_not] at h3;have:=h3.2.1.1.1;omega
theorem Ns {p:Src} {W:Nat} (hW:∀ f∈p.fns,f.name.length<=W) (x:Int):(qP p x).length<=W:=by
 unfold qP;split
 ·rename_i f h;exact hW f (mem_of_getElem? h)
 ·simp
theorem vU {p:Src} {W:Nat} (hW:∀ f∈p.fns,f.name.length<=W):∀ (ks:List Int) (acc:ah),(ux p acc ks).length<=acc.length+ks.length * (W+1)
 | [],acc=>by simp [ux]
 | k::r,acc=>by
  have:=vU hW r (acc++([32]++qP p k));have:=Ns hW k;have e:ux p acc (k::r)=ux p (acc++([32]++qP p k)) r:=rfl;rw [e];simp only [length_append,length_cons,length_nil] at *;rw [Nat.succ_mul];omega
theorem G0 {p:Src} {l:List T} {W:Nat} (hW:∀ f∈p.fns,f.name.length<=W) (hf:p.fns.length<=40) (hl:p.fns.length=l.length):∀ k,k<=p.fns.length->(tE p l k).length<=k * (42 * (W+1)):=by
 intro k
 induction k with
 | zero=>intro _;simp [tE,uI]
 | succ k ih =>
  intro hk;have:=ih (by omega);have e1:p.fns[k]?=some (p.fns[k]'(by omega)):=List.getElem?_eq_getElem _;have e2:l[k]?=some (l[k]'(by omega)):=List.getElem?_eq_getElem _;have hn:=hW _ (mem_of_getElem? e1);unfold tE at *;rw [uo p [] e1 e2];unfold ud;have h1:=vU hW (aX p (l[k]'(by omega))) (uI p (p.fns.take k) (l.take k) []++((p.fns[k]'(by omega)).name++[58]));have h2:=kx p (l[k]'(by omega));have h3:=Nat.mul_le_mul_right (W+1) (Nat.le_trans h2 hf);simp only [length_append,length_cons,length_nil] at *;rw [Nat.succ_mul];omega
end Go.Im
namespace Go.Xg
open Go.RowKit Go.Xw Go.Proofs
open Go.Xp (Nd T Ar aK ay b7)
open Go.Sp (Src)
open Go.Im
attribute [local irreducible] GW GL GO YG GC GA aS aW
theorem Hh (p:Src) (hw:cM p<=1048576) (hn:kU p):GF Tryz.prog 13 [.agg (ar p)] [] (.v (sv (GZ p))) []:=by
 obtain ⟨⟨a1,a2⟩,⟨b1,b2⟩,⟨c1,c2⟩,⟨d1,d2⟩⟩:=cW p
 have iV:(p.fns.map au).length=p.fns.length:=by simp
 have hG:=yK p hw hn;unfold GZ
 cases q:eo p with
 | false =>
  rw [q] at hG;rw [if_neg (by decide)];refine ai Tryz.func13 Tryz.ntmps13 ?_;refine U [] (hG) ?_;exact ao
 | true =>
  rw [q] at hG;obtain ⟨l,hg⟩:=r7 q;rw [if_pos rfl,hg.zj];simp only;have hlen:=hg.len;have O4:=Fj q
  have hW:∀ f∈p.fns,f.name.length<=1048576:=fun f h=>by have:=(c2 f h).1;omega
  refine ai Tryz.func13 Tryz.ntmps13 ?_;refine U [] (hG) ?_;refine GW.range (p.fns.map au).length (fun k fr Γ=>∃ o,fr=[.aaF,.loc 0 0,.aaF,.v (sv o),.aaF,.aaF,.aaF,.aaF,.aaF,.aaF,.aaF,.aaF,.sl 3 (p.fns.map au),.v (ii ((p.fns.map au).length:Int)),.v (ii (k:Nat)),.aaF,.aaF,.aaF,.aaF,.aaF,.aaF,.aaF,.aaF,.aaF,.aaF,.aaF,.aaF,.aaF,.aaF,.aaF,.aaF,.aaF,.aaF,.aaF,.aaF,.aaF,.aaF,.aaF,.aaF,.aaF,.aaF,.aaF,.aaF,.aaF,.aaF,.aaF]/\Γ=[.box 34 (ar p)]/\o=tE p l k) ?_ ae ?_ ?_ ?_
  ·exact ⟨_,_,Wk.aw al,[],rfl,rfl,rfl⟩
  ·rintro k _ _ ⟨o,rfl,rfl,_⟩;exact ⟨rfl,rfl,rfl⟩
  ·rintro k _ _ aq ⟨o,rfl,rfl,ho⟩;rw [iV] at aq;obtain ⟨f,hf⟩:∃ f,p.fns[k]?=some f:=⟨p.fns[k],by simp [aq]⟩;obtain ⟨t,ht⟩:∃ t,l[k]?=some t:=⟨l[k]'ae,List.getElem?_eq_getElem _⟩
   have hr:(p.fns.map au)[k]?=some (au f):=by rw [getElem?_map,hf];rfl
   have hC:=uV p hw (hg.fn hf ht)
   have FI:o.length<=1761609360:=by
    have h0:=G0 (W:=1048576) hW O4 hlen k ae;rw [ho];omega
   have iU:=hW f (mem_of_getElem? hf)
   have iY:tE p l (k+1)=ud p o f (aX p t):=by unfold tE at *;rw [uo p [] hf ht,<-ho]
   have pA:=jg p t;have eH:=kx p t;rw [iY];clear ho;unfold au at hr;unfold ud;generalize aX p t=ks at *
   have xM:(ks.map fun i=>[GV.v (ii i)]).length=ks.length:=by simp
   have eI:(f.name++[58]).length<=1048577:=by rw [length_append];simp;omega
   have vc:=fun M7=>vU hW M7 (o++(f.name++[58]))
   have gh:(o++(f.name++[58])).length<=1805649594:=by rw [length_append];omega
   refine ab ?_;refine U [] (hC) ?_;refine GW.range (ks.map fun i=>[GV.v (ii i)]).length (fun j fr Γ=>∃ s B,fr=[.aaF,.loc 0 0,.aaF,.v (sv s),.aaF,.aaF,.aaF,.aaF,.aaF,.aaF,.aaF,.aaF,.sl 3 (p.fns.map au),.v (ii ((p.fns.map au).length:Int)),.v (ii (k:Nat)),.aaF,.aaF,.aaF,.aaF,.aaF,.aaF,.aaF,.aaF,.aaF,.aaF,.aaF,ints ks,.v (ii ((ks.map fun i=>[GV.v (ii i)]).length:Int)),.v (ii (j:Nat)),.aaF,.aaF,.aaF,.aaF,.aaF,.aaF,.aaF,.aaF,.aaF,.aaF,.aaF,.aaF,.aaF,.aaF,.aaF,.aaF,.aaF]/\Γ=[.box 34 (ar p),B]/\s=ux p (o++(f.name++[58])) (ks.take j)) ?_ ae ?_ ?_ ?_
   ·exact ⟨_,_,Wk.aw al,_,_,rfl,rfl,rfl⟩
   ·rintro j _ _ ⟨s,B,rfl,rfl,_⟩;exact ⟨rfl,rfl,rfl⟩
   ·rintro j _ _ hj ⟨s,B,rfl,rfl,hs⟩;rw [xM] at hj;obtain ⟨y,hy⟩:∃ y,ks[j]?=some y:=⟨ks[j],by simp [hj]⟩
    have Uh:(ks.map fun i=>[GV.v (ii i)])[j]?=some [.v (ii y)]:=by rw [getElem?_map,hy];rfl
    have Z3:=pA y (mem_of_getElem? hy);obtain ⟨m,hm⟩:∃ m:Nat,y=(m:Int):=⟨y.toNat,by omega⟩;subst hm
    have dO:m < p.fns.length:=by omega
    obtain ⟨g,Fw⟩:∃ g,p.fns[m]?=some g:=⟨p.fns[m],by simp [dO]⟩
    have Uf:(p.fns.map au)[m]?=some (au g):=by rw [getElem?_map,Fw];rfl
    have ju:=hW g (mem_of_getElem? Fw)
    have dX:qP p (m:Int)=g.name:=by unfold qP;rw [Int.toNat_natCast,Fw]
    have qb:s.length<=1847592674:=by
     have h5:=vc (ks.take j);have h6:=Nat.mul_le_mul_right (1048576+1) (show (ks.take j).length<=40 by rw [List.length_take];omega);rw [hs];omega
    have xO:([32]++g.name).length<=1048577:=by rw [length_append];simp;omega
    rw [Dh p _ hy,dX,<-hs];clear hs;unfold au at Uf;refine ab ?_;exact ⟨rfl,rfl,_,_,Wk.aw al,_,_,rfl,rfl,rfl⟩
   ·rintro _ _ ⟨s,B,rfl,rfl,hs⟩;rw [xM,take_length] at hs
    have qb:s.length<=1847592674:=by
     have h5:=vc ks;have h6:=Nat.mul_le_mul_right (1048576+1) (show ks.length<=40 by omega);rw [hs];omega
    rw [<-hs];refine aD ?_;refine ab ?_;exact ⟨rfl,rfl,_,_,(Wk.cut (n:=1) (Nat.zero_le _) rfl).trans (Wk.aw al),_,rfl,rfl,rfl⟩
  ·rintro _ _ ⟨o,rfl,rfl,ho⟩;rw [iV] at ho;unfold tE at ho;rw [take_length,hlen,take_length] at ho;rw [<-ho];refine aD ?_;exact av
end Go.Xg
namespace Go.Xg
open Go.RowKit Go.Xw Go.Proofs
open Go.Xp (Nd T Ar aK ay b7)
open Go.Sp (Src)
open Go.Im
attribute [local irreducible] GW GL GO YG GC GA aS aW
theorem Hg (p:Src) (hw:cM p<=1048576) (hn:kU p):GF Tryz.prog 11 [.agg (ar p)] [] (.v (sv (GZ p))) []:=by
 obtain ⟨⟨a1,a2⟩,⟨b1,b2⟩,⟨c1,c2⟩,⟨d1,d2⟩⟩:=cW p
 have iV:(p.fns.map au).length=p.fns.length:=by simp
 have hG:=u9 p hw;unfold GZ
 cases q:eo p with
 | false =>
  rw [q] at hG;rw [if_neg (by decide)];refine ai Tryz.func11 Tryz.ntmps11 ?_;refine U [] (hG) ?_;exact ao
 | true =>
  rw [q] at hG;obtain ⟨l,hg⟩:=r7 q;rw [if_pos rfl,hg.zj];simp only;have hlen:=hg.len;have O4:=Fj q
  have hW:∀ f∈p.fns,f.name.length<=1048576:=fun f h=>by have:=(c2 f h).1;omega
  refine ai Tryz.func11 Tryz.ntmps11 ?_;refine U [] (hG) ?_;refine GW.range (p.fns.map au).length (fun k fr Γ=>∃ o,fr=[.aaF,.loc 0 0,.aaF,.v (sv o),.aaF,.aaF,.aaF,.aaF,.aaF,.aaF,.aaF,.aaF,.aaF,.sl 3 (p.fns.map au),.v (ii ((p.fns.map au).length:Int)),.v (ii (k:Nat)),.aaF,.aaF,.aaF,.aaF,.aaF,.aaF,.aaF,.aaF,.aaF,.aaF,.aaF,.aaF,.aaF,.aaF,.aaF,.aaF,.aaF,.aaF,.aaF,.aaF,.aaF,.aaF,.aaF,.aaF,.aaF,.aaF,.aaF,.aaF,.aaF,.aaF,.aaF]/\Γ=[.box 34 (ar p)]/\o=tE p l k) ?_ ae ?_ ?_ ?_
  ·exact ⟨_,_,Wk.aw al,[],rfl,rfl,rfl⟩
  ·rintro k _ _ ⟨o,rfl,rfl,_⟩;exact ⟨rfl,rfl,rfl⟩
  ·rintro k _ _ aq ⟨o,rfl,rfl,ho⟩;rw [iV] at aq;obtain ⟨f,hf⟩:∃ f,p.fns[k]?=some f:=⟨p.fns[k],by simp [aq]⟩;obtain ⟨t,ht⟩:∃ t,l[k]?=some t:=⟨l[k]'ae,List.getElem?_eq_getElem _⟩
   have hr:(p.fns.map au)[k]?=some (au f):=by rw [getElem?_map,hf];rfl
   have hC:=rL p hw q (hg.fn hf ht)
   have FI:o.length<=1761609360:=by
    have h0:=G0 (W:=1048576) hW O4 hlen k ae;rw [ho];omega
   have iU:=hW f (mem_of_getElem? hf)
   have iY:tE p l (k+1)=ud p o f (aX p t):=by unfold tE at *;rw [uo p [] hf ht,<-ho]
   have pA:=jg p t;have eH:=kx p t;rw [iY];clear ho;unfold au at hr;unfold ud;generalize aX p t=ks at *
   have xM:(ks.map fun i=>[GV.v (ii i)]).length=ks.length:=by simp
   have eI:(o++f.name).length<=1762657936:=by rw [length_append];omega
   have vc:=fun M7=>vU hW M7 ((o++f.name)++[58])
   have gh:((o++f.name)++[58]).length<=1805649594:=by rw [length_append];simp only [length_cons,length_nil];omega
   rw [<-List.append_assoc o f.name [58]];refine ab ?_;refine bJ [] (hC) ?_;rintro _ _ ⟨a2,c2',rfl,rfl⟩;refine cj ?_;refine GL.wk (Wk.nB (t:=27) (i:=2) rfl rfl rfl) ?_;refine bI ?_;refine ab ?_;refine GW.range (ks.map fun i=>[GV.v (ii i)]).length (fun j fr Γ=>∃ s B B',fr=[.aaF,.loc 0 0,.aaF,.v (sv s),.aaF,.aaF,.aaF,.aaF,.aaF,.aaF,.aaF,.aaF,.aaF,.sl 3 (p.fns.map au),.v (ii ((p.fns.map au).length:Int)),.v (ii (k:Nat)),.aaF,.aaF,.aaF,.aaF,.aaF,.aaF,.aaF,.aaF,.aaF,.aaF,.aaF,ints ks,.v (ii ((ks.map fun i=>[GV.v (ii i)]).length:Int)),.v (ii (j:Nat)),.aaF,.aaF,.aaF,.aaF,.aaF,.aaF,.aaF,.aaF,.aaF,.aaF,.aaF,.aaF,.aaF,.aaF,.aaF,.aaF,.aaF]/\Γ=[.box 34 (ar p),B,B']/\s=ux p ((o++f.name)++[58]) (ks.take j)) ?_ ae ?_ ?_ ?_
   ·exact ⟨_,_,Wk.aw al,_,_,_,rfl,rfl,rfl⟩
   ·rintro j _ _ ⟨s,B,B',rfl,rfl,_⟩;exact ⟨rfl,rfl,rfl⟩
   ·rintro j _ _ hj ⟨s,B,B',rfl,rfl,hs⟩;rw [xM] at hj;obtain ⟨y,hy⟩:∃ y,ks[j]?=some y:=⟨ks[j],by simp [hj]⟩
    have Uh:(ks.map fun i=>[GV.v (ii i)])[j]?=some [.v (ii y)]:=by rw [getElem?_map,hy];rfl
    have Z3:=pA y (mem_of_getElem? hy);obtain ⟨m,hm⟩:∃ m:Nat,y=(m:Int):=⟨y.toNat,by omega⟩;subst hm
    have dO:m < p.fns.length:=by omega
    obtain ⟨g,Fw⟩:∃ g,p.fns[m]?=some g:=⟨p.fns[m],by simp [dO]⟩
    have Uf:(p.fns.map au)[m]?=some (au g):=by rw [getElem?_map,Fw];rfl
    have ju:=hW g (mem_of_getElem? Fw)
    have dX:qP p (m:Int)=g.name:=by unfold qP;rw [Int.toNat_natCast,Fw]
    have qb:s.length<=1847592674:=by
     have h5:=vc (ks.take j);have h6:=Nat.mul_le_mul_right (1048576+1) (show (ks.take j).length<=40 by rw [List.length_take];omega);rw [hs];omega
    have xO:(s++[32]).length<=1847592675:=by rw [length_append];simp only [length_cons,length_nil];omega
    rw [Dh p _ hy,dX,<-hs,<-List.append_assoc s [32] g.name];clear hs;unfold au at Uf;refine ab ?_;exact ⟨rfl,rfl,_,_,Wk.aw al,_,_,_,rfl,rfl,rfl⟩
   ·rintro _ _ ⟨s,B,B',rfl,rfl,hs⟩;rw [xM,take_length] at hs
    have qb:s.length<=1847592674:=by
     have h5:=vc ks;have h6:=Nat.mul_le_mul_right (1048576+1) (show ks.length<=40 by omega);rw [hs];omega
    rw [<-hs];refine aD ?_;refine ab ?_;exact ⟨rfl,rfl,_,_,(Wk.cut (n:=1) (Nat.zero_le _) rfl).trans (Wk.aw al),_,rfl,rfl,rfl⟩
  ·rintro _ _ ⟨o,rfl,rfl,ho⟩;rw [iV] at ho;unfold tE at ho;rw [take_length,hlen,take_length] at ho;rw [<-ho];refine aD ?_;exact av
end Go.Xg
set_option maxHeartbeats 1000000
namespace Go.Xg
open Go.RowKit Go.Xw Go.Proofs
open Go.Sp (Src)
open Go.Im
attribute [local irreducible] GW GL GO YG GC GA aS aW
theorem vN (p:Src) (hS:GF Tryz.prog 10 [.agg (ar p),.v (ii 1048576)] [] (.v (ii (-1))) []):GF Tryz.prog 3 [.agg (ar p)] [] (.v (.bool true)) []:=by
 refine ai Tryz.func3 Tryz.ntmps3 ?_;refine U [] (hS) ?_;exact ao
theorem xd (p:Src) (n:Nat) (x0:ah) (hS:GF Tryz.prog 10 [.agg (ar p),.v (ii 1048576)] [] (.v (ii (n:Nat))) [])
  (hT:GF Tryz.prog 12 [.agg (ar p)] [] (.agg (ar p)) []) (hG:GF Tryz.prog 11 [.agg (ar p)] [] (.v (sv x0)) [])
  (hI:GF Tryz.prog 13 [.agg (ar p)] [] (.v (sv x0)) []) (hE:GF Tryz.prog 14 [.agg (ar p),.agg (ar p)] [] (.v (.bool true)) []) :
  GF Tryz.prog 3 [.agg (ar p)] [] (.v (.bool true)) []:=by
 have hd:decide (((n:Nat):Int) < 0)=false:=by simp
 have oS:(!(x0==x0))=false:=by simp
 refine ai Tryz.func3 Tryz.ntmps3 ?_;refine U [] (hS) ?_;refine U [] (hT) ?_;refine U [] (hG) ?_;refine U [] (hT) ?_;refine U [] (hI) ?_;refine GW.draw (.q 0 (.q 1 (.a 2 (.a 3 (.q 4 .nil))))) (by kernel_rfl) (by kernel_rfl) ?_;refine aj ?_;refine az [] (hT) ?_;refine az [] (hE) ?_;exact av
theorem xf (p:Src) (hb:Small p 9223372036854775807) (hn:kU p):GF Tryz.prog 3 [.agg (ar p)] [] (.v (.bool true)) []:=by
 have hS:=rV p hb
 by_cases hw:1048576 < cM p
 ·rw [c7 hw] at hS;exact vN p hS
 ·rw [fc ae] at hS
  have hw:cM p<=1048576:=by omega
  obtain ⟨⟨a1,a2⟩,⟨b1,b2⟩,⟨c1,c2⟩,⟨d1,d2⟩⟩:=cW p
  have pz:∀ f∈p.fns,f.params.length<=1048576:=fun f h=>by have:=(c2 f h).2.1;omega
  have oa:∀ n∈p.nodes,n.kids.length<=1048576:=fun n h=>by have:=(d2 n h).2;omega
  exact xd p _ (GZ p) hS (rW p ae ae ae pz ae oa) (Hg p hw hn) (Hh p hw hn) (rO p ae ae ae pz ae oa)
end Go.Xg
