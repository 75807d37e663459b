/- Part 7 of proofs that are told in their last texts. -/
import Derived.Test.YthgncfaljaocoaaGreatDoorX6
import Derived.Test.YthgncfaljaocoaaGreatDoorX5
import Derived.Test.YthgncfaljaocoaaGreatDoorX2
open List (all_cons all_eq_false all_nil getElem?_map length_append length_cons length_map length_nil mem_of_getElem? take_add_one take_of_length_le)
set_option linter.unusedVariables false
set_option linter.unusedSimpArgs false
set_option maxRecDepth 100000
set_option maxHeartbeats 1000000
namespace Go.Xg
open Go.RowKit Go.Xw Go.Proofs
open Go.Xp (Tok Nd T bc one levels Ar)
open Go.Sp
attribute [local irreducible] GW GL GO YG GC GA aS aW
theorem Ud (a n:Int) (s:ae) (ks:List Int) (l:List T) (hs:s.length<=1099511627776) (hl:l.length<=1099511627776) (ha:decide (a < 0)=false):GF Tryz.prog 151 [.agg (cT (.mk ⟨1,a,n,s,ks⟩ l))] [] (.v (.bool (bH (.mk ⟨1,a,n,s,ks⟩ l)))) []:=by
 have how:bH (.mk ⟨1,a,n,s,ks⟩ l)=(decide ((0:Int)<=n)&&(decide (n<=2147483647)&&((s==[])&&((l.length:Int)==0)))):=by unfold bH own;rw [if_neg (by show ¬ (decide (a < 0)=true);rw [ha];decide)];rfl
 rw [how];refine cP Tryz.func151 Tryz.ntmps151 ?_
 cases h0:decide ((0:Int)<=n) with
 | false =>
  exact av
 | true =>
  cases h1:decide (n<=2147483647) with
  | false =>
   exact av
  | true =>
   cases h2:(s==[]) with
   | false =>
    exact av
   | true =>
    refine ab ?_;refine bK ?_;exact ⟨by first | rfl | (rw [aO];rfl),rfl⟩
theorem Ue (a:Int) (s:ae) (ks:List Int) (l:List T) (hs:s.length<=1099511627776) (hl:l.length<=1099511627776) (ha:decide (a < 0)=false):GF Tryz.prog 151 [.agg (cT (.mk ⟨2,a,0,s,ks⟩ l))] [] (.v (.bool (bH (.mk ⟨2,a,0,s,ks⟩ l)))) []:=by
 have how:bH (.mk ⟨2,a,0,s,ks⟩ l)=(bg s&&((l.length:Int)==0)):=by unfold bH own;rw [if_neg (by show ¬ (decide (a < 0)=true);rw [ha];decide)];rfl
 rw [how];refine cP Tryz.func151 Tryz.ntmps151 ?_
 cases h0:bg s with
 | false =>
  refine ab ?_;have hc:=dS s hs;rw [h0] at hc;refine U [] (hc) ?_;exact ao
 | true =>
  refine ab ?_;have hc:=dS s hs;rw [h0] at hc;refine U [] (hc) ?_;refine bK ?_;exact ⟨by first | rfl | (rw [aO];rfl),rfl⟩
theorem Uf (a:Int) (s:ae) (ks:List Int) (l:List T) (hs:s.length<=1099511627776) (hl:l.length<=1099511627776) (ha:decide (a < 0)=false):GF Tryz.prog 151 [.agg (cT (.mk ⟨3,a,0,s,ks⟩ l))] [] (.v (.bool (bH (.mk ⟨3,a,0,s,ks⟩ l)))) []:=by
 have how:bH (.mk ⟨3,a,0,s,ks⟩ l)=(bg s&&(((l.length:Int)==1)&&bd 1 0 l)):=by unfold bH own;rw [if_neg (by show ¬ (decide (a < 0)=true);rw [ha];decide)];rfl
 rw [how];refine cP Tryz.func151 Tryz.ntmps151 ?_
 cases h0:bg s with
 | false =>
  refine ab ?_;have hc:=dS s hs;rw [h0] at hc;refine U [] (hc) ?_;exact ao
 | true =>
  cases h1:((l.length:Int)==1) with
  | false =>
   have ct:((((aJ l).length:Int)==1))=false:=by rw [<-aO l] at h1;exact h1
   refine ab ?_;have hc:=dS s hs;rw [h0] at hc;refine U [] (hc) ?_;exact ao
  | true =>
   have ct:((((aJ l).length:Int)==1))=true:=by rw [<-aO l] at h1;exact h1
   refine ab ?_;have hc:=dS s hs;rw [h0] at hc;refine U [] (hc) ?_;have hc:=eJ (.mk ⟨3,a,0,s,ks⟩ l) 1 hl;refine U [] (hc) ?_;refine bK ?_;exact ⟨by first | rfl | (rw [aO];rfl),rfl⟩
theorem Ug (a:Int) (s:ae) (ks:List Int) (l:List T) (hs:s.length<=1099511627776) (hl:l.length<=1099511627776) (ha:decide (a < 0)=false):GF Tryz.prog 151 [.agg (cT (.mk ⟨4,a,0,s,ks⟩ l))] [] (.v (.bool (bH (.mk ⟨4,a,0,s,ks⟩ l)))) []:=by
 have how:bH (.mk ⟨4,a,0,s,ks⟩ l)=(bg s&&bd l.length 0 l):=by unfold bH own;rw [if_neg (by show ¬ (decide (a < 0)=true);rw [ha];decide)];rfl
 rw [how];refine cP Tryz.func151 Tryz.ntmps151 ?_
 cases h0:bg s with
 | false =>
  refine ab ?_;have hc:=dS s hs;rw [h0] at hc;refine U [] (hc) ?_;exact ao
 | true =>
  refine ab ?_;have hc:=dS s hs;rw [h0] at hc;refine U [] (hc) ?_;have hc:=eJ (.mk ⟨4,a,0,s,ks⟩ l) (aJ l).length hl;refine U [] (hc) ?_;refine bK ?_;exact ⟨by first | rfl | (rw [aO];rfl),rfl⟩
theorem Ui (a:Int) (s:ae) (ks:List Int) (l:List T) (hs:s.length<=1099511627776) (hl:l.length<=1099511627776) (ha:decide (a < 0)=false):GF Tryz.prog 151 [.agg (cT (.mk ⟨6,a,0,s,ks⟩ l))] [] (.v (.bool (bH (.mk ⟨6,a,0,s,ks⟩ l)))) []:=by
 have how:bH (.mk ⟨6,a,0,s,ks⟩ l)=(ei s&&(((l.length:Int)==2)&&bd 2 0 l)):=by unfold bH own;rw [if_neg (by show ¬ (decide (a < 0)=true);rw [ha];decide)];rfl
 rw [how];refine cP Tryz.func151 Tryz.ntmps151 ?_
 cases h0:ei s with
 | false =>
  refine ab ?_;have hc:=se s;rw [h0] at hc;refine U [] (hc) ?_;exact ao
 | true =>
  cases h1:((l.length:Int)==2) with
  | false =>
   have ct:((((aJ l).length:Int)==2))=false:=by rw [<-aO l] at h1;exact h1
   refine ab ?_;have hc:=se s;rw [h0] at hc;refine U [] (hc) ?_;exact ao
  | true =>
   have ct:((((aJ l).length:Int)==2))=true:=by rw [<-aO l] at h1;exact h1
   refine ab ?_;have hc:=se s;rw [h0] at hc;refine U [] (hc) ?_;have hc:=eJ (.mk ⟨6,a,0,s,ks⟩ l) 2 hl;refine U [] (hc) ?_;refine bK ?_;exact ⟨by first | rfl | (rw [aO];rfl),rfl⟩
theorem Uj (a:Int) (s:ae) (ks:List Int) (l:List T) (hs:s.length<=1099511627776) (hl:l.length<=1099511627776) (ha:decide (a < 0)=false):GF Tryz.prog 151 [.agg (cT (.mk ⟨7,a,0,s,ks⟩ l))] [] (.v (.bool (bH (.mk ⟨7,a,0,s,ks⟩ l)))) []:=by
 have how:bH (.mk ⟨7,a,0,s,ks⟩ l)=(bg s&&(((l.length:Int)==1)&&bd 1 0 l)):=by unfold bH own;rw [if_neg (by show ¬ (decide (a < 0)=true);rw [ha];decide)];rfl
 rw [how];refine cP Tryz.func151 Tryz.ntmps151 ?_
 cases h0:bg s with
 | false =>
  refine ab ?_;have hc:=dS s hs;rw [h0] at hc;refine U [] (hc) ?_;exact ao
 | true =>
  cases h1:((l.length:Int)==1) with
  | false =>
   have ct:((((aJ l).length:Int)==1))=false:=by rw [<-aO l] at h1;exact h1
   refine ab ?_;have hc:=dS s hs;rw [h0] at hc;refine U [] (hc) ?_;exact ao
  | true =>
   have ct:((((aJ l).length:Int)==1))=true:=by rw [<-aO l] at h1;exact h1
   refine ab ?_;have hc:=dS s hs;rw [h0] at hc;refine U [] (hc) ?_;have hc:=eJ (.mk ⟨7,a,0,s,ks⟩ l) 1 hl;refine U [] (hc) ?_;refine bK ?_;exact ⟨by first | rfl | (rw [aO];rfl),rfl⟩
theorem Uk (a:Int) (s:ae) (ks:List Int) (l:List T) (hs:s.length<=1099511627776) (hl:l.length<=1099511627776) (ha:decide (a < 0)=false):GF Tryz.prog 151 [.agg (cT (.mk ⟨8,a,0,s,ks⟩ l))] [] (.v (.bool (bH (.mk ⟨8,a,0,s,ks⟩ l)))) []:=by
 have how:bH (.mk ⟨8,a,0,s,ks⟩ l)=(bg s&&(((l.length:Int)==2)&&bd 2 0 l)):=by unfold bH own;rw [if_neg (by show ¬ (decide (a < 0)=true);rw [ha];decide)];rfl
 rw [how];refine cP Tryz.func151 Tryz.ntmps151 ?_
 cases h0:bg s with
 | false =>
  refine ab ?_;have hc:=dS s hs;rw [h0] at hc;refine U [] (hc) ?_;exact ao
 | true =>
  cases h1:((l.length:Int)==2) with
  | false =>
   have ct:((((aJ l).length:Int)==2))=false:=by rw [<-aO l] at h1;exact h1
   refine ab ?_;have hc:=dS s hs;rw [h0] at hc;refine U [] (hc) ?_;exact ao
  | true =>
   have ct:((((aJ l).length:Int)==2))=true:=by rw [<-aO l] at h1;exact h1
   refine ab ?_;have hc:=dS s hs;rw [h0] at hc;refine U [] (hc) ?_;have hc:=eJ (.mk ⟨8,a,0,s,ks⟩ l) 2 hl;refine U [] (hc) ?_;refine bK ?_;exact ⟨by first | rfl | (rw [aO];rfl),rfl⟩
theorem Sz (a:Int) (s:ae) (ks:List Int) (l:List T) (hs:s.length<=1099511627776) (hl:l.length<=1099511627776) (ha:decide (a < 0)=false):GF Tryz.prog 151 [.agg (cT (.mk ⟨10,a,0,s,ks⟩ l))] [] (.v (.bool (bH (.mk ⟨10,a,0,s,ks⟩ l)))) []:=by
 have how:bH (.mk ⟨10,a,0,s,ks⟩ l)=((s==[])&&(((l.length:Int)==2)&&bd 1 0 l)):=by unfold bH own;rw [if_neg (by show ¬ (decide (a < 0)=true);rw [ha];decide)];rfl
 rw [how];refine cP Tryz.func151 Tryz.ntmps151 ?_
 cases h0:(s==[]) with
 | false =>
  exact av
 | true =>
  cases h1:((l.length:Int)==2) with
  | false =>
   have ct:((((aJ l).length:Int)==2))=false:=by rw [<-aO l] at h1;exact h1
   exact av
  | true =>
   have ct:((((aJ l).length:Int)==2))=true:=by rw [<-aO l] at h1;exact h1
   refine ab ?_;have hc:=eJ (.mk ⟨10,a,0,s,ks⟩ l) 1 hl;refine U [] (hc) ?_;refine bK ?_;exact ⟨by first | rfl | (rw [aO];rfl),rfl⟩
theorem SA (a:Int) (s:ae) (ks:List Int) (l:List T) (hs:s.length<=1099511627776) (hl:l.length<=1099511627776) (ha:decide (a < 0)=false):GF Tryz.prog 151 [.agg (cT (.mk ⟨11,a,0,s,ks⟩ l))] [] (.v (.bool (bH (.mk ⟨11,a,0,s,ks⟩ l)))) []:=by
 have how:bH (.mk ⟨11,a,0,s,ks⟩ l)=((s==[])&&(((l.length:Int)==1)&&bd 1 0 l)):=by unfold bH own;rw [if_neg (by show ¬ (decide (a < 0)=true);rw [ha];decide)];rfl
 rw [how];refine cP Tryz.func151 Tryz.ntmps151 ?_
 cases h0:(s==[]) with
 | false =>
  exact av
 | true =>
  cases h1:((l.length:Int)==1) with
  | false =>
   have ct:((((aJ l).length:Int)==1))=false:=by rw [<-aO l] at h1;exact h1
   exact av
  | true =>
   have ct:((((aJ l).length:Int)==1))=true:=by rw [<-aO l] at h1;exact h1
   refine ab ?_;have hc:=eJ (.mk ⟨11,a,0,s,ks⟩ l) 1 hl;refine U [] (hc) ?_;refine bK ?_;exact ⟨by first | rfl | (rw [aO];rfl),rfl⟩
theorem SB (a:Int) (s:ae) (ks:List Int) (l:List T) (hs:s.length<=1099511627776) (hl:l.length<=1099511627776) (ha:decide (a < 0)=false):GF Tryz.prog 151 [.agg (cT (.mk ⟨12,a,0,s,ks⟩ l))] [] (.v (.bool (bH (.mk ⟨12,a,0,s,ks⟩ l)))) []:=by
 have how:bH (.mk ⟨12,a,0,s,ks⟩ l)=((s==[])&&(((l.length:Int)==1)&&bd 1 0 l)):=by unfold bH own;rw [if_neg (by show ¬ (decide (a < 0)=true);rw [ha];decide)];rfl
 rw [how];refine cP Tryz.func151 Tryz.ntmps151 ?_
 cases h0:(s==[]) with
 | false =>
  exact av
 | true =>
  cases h1:((l.length:Int)==1) with
  | false =>
   have ct:((((aJ l).length:Int)==1))=false:=by rw [<-aO l] at h1;exact h1
   exact av
  | true =>
   have ct:((((aJ l).length:Int)==1))=true:=by rw [<-aO l] at h1;exact h1
   refine ab ?_;have hc:=eJ (.mk ⟨12,a,0,s,ks⟩ l) 1 hl;refine U [] (hc) ?_;refine bK ?_;exact ⟨by first | rfl | (rw [aO];rfl),rfl⟩
theorem SC (a:Int) (s:ae) (ks:List Int) (l:List T) (hs:s.length<=1099511627776) (hl:l.length<=1099511627776) (ha:decide (a < 0)=false):GF Tryz.prog 151 [.agg (cT (.mk ⟨13,a,0,s,ks⟩ l))] [] (.v (.bool (bH (.mk ⟨13,a,0,s,ks⟩ l)))) []:=by
 have how:bH (.mk ⟨13,a,0,s,ks⟩ l)=(bg s&&(((l.length:Int)==1)&&bd 1 0 l)):=by unfold bH own;rw [if_neg (by show ¬ (decide (a < 0)=true);rw [ha];decide)];rfl
 rw [how];refine cP Tryz.func151 Tryz.ntmps151 ?_
 cases h0:bg s with
 | false =>
  refine ab ?_;have hc:=dS s hs;rw [h0] at hc;refine U [] (hc) ?_;exact ao
 | true =>
  cases h1:((l.length:Int)==1) with
  | false =>
   have ct:((((aJ l).length:Int)==1))=false:=by rw [<-aO l] at h1;exact h1
   refine ab ?_;have hc:=dS s hs;rw [h0] at hc;refine U [] (hc) ?_;exact ao
  | true =>
   have ct:((((aJ l).length:Int)==1))=true:=by rw [<-aO l] at h1;exact h1
   refine ab ?_;have hc:=dS s hs;rw [h0] at hc;refine U [] (hc) ?_;have hc:=eJ (.mk ⟨13,a,0,s,ks⟩ l) 1 hl;refine U [] (hc) ?_;refine bK ?_;exact ⟨by first | rfl | (rw [aO];rfl),rfl⟩
end Go.Xg
namespace Go.Xg
open Go.RowKit Go.Xw Go.Proofs
open Go.Xp (Tok Nd T bc one levels Ar)
open Go.Sp
attribute [local irreducible] GW GL GO YG GC GA aS aW
theorem Uh (a:Int) (s:ae) (ks:List Int) (l:List T) (hs:s.length<=1099511627776) (hl:l.length<=1099511627776) (ha:decide (a < 0)=false):GF Tryz.prog 151 [.agg (cT (.mk ⟨5,a,0,s,ks⟩ l))] [] (.v (.bool (bH (.mk ⟨5,a,0,s,ks⟩ l)))) []:=by
 have how:bH (.mk ⟨5,a,0,s,ks⟩ l)=((s==[45] || s==[33] || s==[126])&&(((l.length:Int)==1)&&bd 1 0 l)):=by unfold bH own;rw [if_neg (by show ¬ (decide (a < 0)=true);rw [ha];decide)];rfl
 rw [how];refine cP Tryz.func151 Tryz.ntmps151 ?_
 cases h1:(s==[45]) with
 | true =>
  cases h4:((l.length:Int)==1) with
  | false =>
   have Kd:(((aJ l).length:Int)==1)=false:=by rw [<-aO l] at h4;exact h4
   exact av
  | true =>
   have Kd:(((aJ l).length:Int)==1)=true:=by rw [<-aO l] at h4;exact h4
   refine ab ?_;have hc:=eJ (.mk ⟨5,a,0,s,ks⟩ l) 1 hl;refine U [] (hc) ?_;exact ao
 | false =>
  cases h2:(s==[33]) with
  | true =>
   cases h4:((l.length:Int)==1) with
   | false =>
    have Kd:(((aJ l).length:Int)==1)=false:=by rw [<-aO l] at h4;exact h4
    exact av
   | true =>
    have Kd:(((aJ l).length:Int)==1)=true:=by rw [<-aO l] at h4;exact h4
    refine ab ?_;have hc:=eJ (.mk ⟨5,a,0,s,ks⟩ l) 1 hl;refine U [] (hc) ?_;exact ao
  | false =>
   cases h3:(s==[126]) with
   | false =>
    exact av
   | true =>
    cases h4:((l.length:Int)==1) with
    | false =>
     have Kd:(((aJ l).length:Int)==1)=false:=by rw [<-aO l] at h4;exact h4
     exact av
    | true =>
     have Kd:(((aJ l).length:Int)==1)=true:=by rw [<-aO l] at h4;exact h4
     refine ab ?_;have hc:=eJ (.mk ⟨5,a,0,s,ks⟩ l) 1 hl;refine U [] (hc) ?_;exact ao
theorem Ul (a:Int) (s:ae) (ks:List Int) (l:List T) (hs:s.length<=1099511627776) (hl:l.length<=1099511627776) (ha:decide (a < 0)=false):GF Tryz.prog 151 [.agg (cT (.mk ⟨9,a,0,s,ks⟩ l))] [] (.v (.bool (bH (.mk ⟨9,a,0,s,ks⟩ l)))) []:=by
 have how:bH (.mk ⟨9,a,0,s,ks⟩ l)=((s==[])&&((((l.length:Int)==2) || ((l.length:Int)==3))&&bd 1 0 l)):=by unfold bH own;rw [if_neg (by show ¬ (decide (a < 0)=true);rw [ha];decide)];rfl
 rw [how];refine cP Tryz.func151 Tryz.ntmps151 ?_
 cases h0:(s==[]) with
 | false =>
  exact av
 | true =>
  cases h1:((l.length:Int)==2) with
  | true =>
   have ct:(((aJ l).length:Int)==2)=true:=by rw [<-aO l] at h1;exact h1
   refine ab ?_;have hc:=eJ (.mk ⟨9,a,0,s,ks⟩ l) 1 hl;refine U [] (hc) ?_;exact ao
  | false =>
   have ct:(((aJ l).length:Int)==2)=false:=by rw [<-aO l] at h1;exact h1
   cases h2:((l.length:Int)==3) with
   | true =>
    have pk:(((aJ l).length:Int)==3)=true:=by rw [<-aO l] at h2;exact h2
    refine ab ?_;have hc:=eJ (.mk ⟨9,a,0,s,ks⟩ l) 1 hl;refine U [] (hc) ?_;exact ao
   | false =>
    have pk:(((aJ l).length:Int)==3)=false:=by rw [<-aO l] at h2;exact h2
    exact av
theorem SD (a:Int) (s:ae) (ks:List Int) (l:List T) (hs:s.length<=1099511627776) (hl:l.length<=1099511627776) (ha:decide (a < 0)=false):GF Tryz.prog 151 [.agg (cT (.mk ⟨14,a,0,s,ks⟩ l))] [] (.v (.bool (bH (.mk ⟨14,a,0,s,ks⟩ l)))) []:=by
 have how:bH (.mk ⟨14,a,0,s,ks⟩ l)=((l.all fun x=>fJ x.n.kind)&&(s==[])):=by unfold bH own;rw [if_neg (by show ¬ (decide (a < 0)=true);rw [ha];decide)];rfl
 rw [how];refine ai Tryz.func151 Tryz.ntmps151 ?_;refine GW.range (aJ l).length (fun k fr Γ=>∃ n,fr=[.Zy,.loc 0 0,.Zy,.loc 1 0,.Zy,.Zy,.Zy,.Zy,.Zy,.Zy,.Zy,.Zy,.Zy,.Zy,.Zy,.Zy,.Zy,.Zy,.Zy,.Zy,.Zy,.Zy,.Zy,.Zy,.Zy,.Zy,.Zy,.Zy,.Zy,.Zy,.Zy,.Zy,.Zy,.Zy,.Zy,.Zy,.Zy,.Zy,.Zy,.Zy,.Zy,.Zy,.Zy,.Zy,.Zy,.Zy,.Zy,.Zy,.Zy,.Zy,.Zy,.Zy,.Zy,.Zy,.Zy,.Zy,.Zy,.Zy,.Zy,.Zy,.Zy,.Zy,.Zy,.Zy,.Zy,.Zy,.Zy,.Zy,.Zy,.Zy,.Zy,.Zy,.Zy,.Zy,.Zy,.Zy,.Zy,.Zy,.Zy,.Zy,.Zy,.Zy,.Zy,.Zy,.Zy,.Zy,.Zy,.Zy,.Zy,.Zy,.Zy,.Zy,.Zy,.Zy,.Zy,.Zy,.Zy,.Zy,.Zy,.Zy,.Zy,.Zy,.Zy,.Zy,.Zy,.Zy,.Zy,.Zy,.Zy,.Zy,.Zy,.Zy,.Zy,.Zy,.Zy,.Zy,.Zy,.Zy,.Zy,.Zy,.Zy,.Zy,.Zy,.Zy,.Zy,.Zy,.Zy,.Zy,.Zy,.Zy,.Zy,.Zy,.Zy,.Zy,.Zy,.Zy,.Zy,.Zy,.Zy,.Zy,.Zy,.Zy,.Zy,.Zy,.Zy,.Zy,.Zy,.Zy,.Zy,.Zy,.Zy,.Zy,.Zy,.Zy,.Zy,.Zy,.Zy,.Zy,.Zy,.Zy,.Zy,.Zy,.Zy,.Zy,.Zy,.Zy,.Zy,.Zy,.Zy,.Zy,.Zy,.Zy,.Zy,.Zy,.Zy,.Zy,.sl 6 (aJ l),.v (ii ((aJ l).length:Int)),.v (ii (k:Nat)),.Zy,.Zy,.Zy,.Zy,.Zy,.Zy,.Zy,.Zy,.Zy,.Zy,.Zy,.Zy]/\Γ=[.box 56 (cT (.mk ⟨14,a,0,s,ks⟩ l)),.box 53 n]/\n=aw ⟨14,a,0,s,ks⟩/\((l.take k).all fun x=>fJ x.n.kind)=true) ?_ (by rw [aO];exact hl) ?_ ?_ ?_
 ·exact ⟨_,_,Wk.ax al,_,rfl,rfl,rfl,rfl⟩
 ·rintro k _ _ ⟨_,rfl,rfl,_⟩;exact ⟨rfl,rfl,rfl⟩
 ·rintro k _ _ hk ⟨_,rfl,rfl,rfl,hf⟩
  have hk:k < l.length:=by rw [aO] at hk;exact hk
  have hx:l[k]?=some l[k]:=by simp [hk]
  have hr:=cr hx;generalize l[k]=x at *;have he:=Fo x.n.kind
  cases hb:fJ x.n.kind with
  | true =>
   rw [hb] at he;refine ab ?_;refine U [] (he) ?_;exact ⟨rfl,rfl,_,_,(Wk.cut (n:=2) (Nat.le_of_ble_eq_true rfl) rfl).trans (Wk.ax al),_,rfl,rfl,rfl,by rw [take_add_one,hx,List.all_append,hf];simp only [Option.toList,all_cons,all_nil,hb];rfl⟩
  | false =>
   rw [hb] at he;refine ab ?_;refine U [] (he) ?_;refine bK ?_
   have ha:(l.all fun x=>fJ x.n.kind)=false:=by
    rw [all_eq_false];exact ⟨x,mem_of_getElem? hx,by simp [hb]⟩
   rw [ha];exact ⟨rfl,rfl⟩
 ·rintro _ _ ⟨_,rfl,rfl,rfl,hf⟩
  have hf:(l.all fun x=>fJ x.n.kind)=true:=by
   rw [take_of_length_le (by rw [aO];omega)] at hf;exact hf
  rw [hf];exact av
theorem Up (k a n:Int) (s:ae) (ks:List Int) (l:List T) (hk:k=1\/k=2\/k=3\/k=4\/k=5\/k=6\/k=7\/k=8\/k=9\/k=10\/k=11\/k=12\/k=13\/k=14\/True) (hx:¬ (k=1\/k=2\/k=3\/k=4\/k=5\/k=6\/k=7\/k=8\/k=9\/k=10\/k=11\/k=12\/k=13\/k=14)) (ha:decide (a < 0)=false) (hn:(n != 0)=false):GF Tryz.prog 151 [.agg (cT (.mk ⟨k,a,n,s,ks⟩ l))] [] (.v (.bool (bH (.mk ⟨k,a,n,s,ks⟩ l)))) []:=by
 simp only [not_or] at hx;obtain ⟨h1,h2,h3,h4,h5,h6,h7,h8,h9,ky,nL,nm,eu,zu⟩:=hx
 have h1:(k==1)=false:=by simpa using h1
 have Za:(k != 1)=true:=by simp only [bne,h1];rfl
 have h2:(k==2)=false:=by simpa using h2
 have h3:(k==3)=false:=by simpa using h3
 have h4:(k==4)=false:=by simpa using h4
 have h5:(k==5)=false:=by simpa using h5
 have h6:(k==6)=false:=by simpa using h6
 have h7:(k==7)=false:=by simpa using h7
 have h8:(k==8)=false:=by simpa using h8
 have h9:(k==9)=false:=by simpa using h9
 have ky:(k==10)=false:=by simpa using ky
 have nL:(k==11)=false:=by simpa using nL
 have nm:(k==12)=false:=by simpa using nm
 have eu:(k==13)=false:=by simpa using eu
 have zu:(k==14)=false:=by simpa using zu
 have how:bH (.mk ⟨k,a,n,s,ks⟩ l)=false:=by
  show own ⟨k,a,n,s,ks⟩ _ _ _=_;simp [own,h1,h2,h3,h4,h5,h6,h7,h8,h9,ky,nL,nm,eu,zu]
 rw [how];refine ai Tryz.func151 Tryz.ntmps151 ?_;exact ao
theorem Um (k a n:Int) (s:ae) (ks:List Int) (l:List T) (ha:decide (a < 0)=true):GF Tryz.prog 151 [.agg (cT (.mk ⟨k,a,n,s,ks⟩ l))] [] (.v (.bool (bH (.mk ⟨k,a,n,s,ks⟩ l)))) []:=by
 have how:bH (.mk ⟨k,a,n,s,ks⟩ l)=false:=by
  show own ⟨k,a,n,s,ks⟩ _ _ _=_;unfold own;rw [if_pos ha]
 rw [how];refine ai Tryz.func151 Tryz.ntmps151 ?_;exact ao
theorem Uo (k a n:Int) (s:ae) (ks:List Int) (l:List T) (ha:decide (a < 0)=false) (hk:(k != 1)=true) (hn:(n != 0)=true):GF Tryz.prog 151 [.agg (cT (.mk ⟨k,a,n,s,ks⟩ l))] [] (.v (.bool (bH (.mk ⟨k,a,n,s,ks⟩ l)))) []:=by
 have how:bH (.mk ⟨k,a,n,s,ks⟩ l)=false:=by
  show own ⟨k,a,n,s,ks⟩ _ _ _=_;unfold own;rw [if_neg (by show ¬ (decide (a < 0)=true);rw [ha];decide),if_pos (by show ((k != 1)&&(n != 0))=true;rw [hk,hn];rfl)]
 rw [how];refine ai Tryz.func151 Tryz.ntmps151 ?_;exact ao
theorem M9 (t:T) (hs:t.n.s.length<=1099511627776) (hl:t.kids.length<=1099511627776):GF Tryz.prog 151 [.agg (cT t)] [] (.v (.bool (bH t))) []:=by
 obtain ⟨⟨k,a,n,s,ks⟩,l⟩:=t
 cases ha:decide (a < 0) with
 | true=>exact Um k a n s ks l ha
 | false =>
 by_cases sX:k=1
 ·subst sX;exact Ud a n s ks l hs hl ha
 by_cases hn:n=0
 ·subst hn
  by_cases h:k=1\/k=2\/k=3\/k=4\/k=5\/k=6\/k=7\/k=8\/k=9\/k=10\/k=11\/k=12\/k=13\/k=14
  ·rcases h with rfl | rfl | rfl | rfl | rfl | rfl | rfl | rfl | rfl | rfl | rfl | rfl | rfl | rfl
   ·exact absurd rfl sX
   ·exact Ue a s ks l hs hl ha
   ·exact Uf a s ks l hs hl ha
   ·exact Ug a s ks l hs hl ha
   ·exact Uh a s ks l hs hl ha
   ·exact Ui a s ks l hs hl ha
   ·exact Uj a s ks l hs hl ha
   ·exact Uk a s ks l hs hl ha
   ·exact Ul a s ks l hs hl ha
   ·exact Sz a s ks l hs hl ha
   ·exact SA a s ks l hs hl ha
   ·exact SB a s ks l hs hl ha
   ·exact SC a s ks l hs hl ha
   ·exact SD a s ks l hs hl ha
  ·exact Up k a 0 s ks l (by simp) h ha rfl
 ·exact Uo k a n s ks l ha (by simpa using sX) (by simpa using hn)
end Go.Xg
namespace Go.Xg
open Go.RowKit Go.Xw Go.Proofs
open Go.Xp (Tok Nd T bc one levels Ar)
open Go.Sp
attribute [local irreducible] GW GL GO YG GC GA aS aW
theorem Jn (l:List T):bM l=l.all cV:=by
 induction l with
 | nil=>simp [bM]
 | cons a l ih=>simp [bM,ih]
theorem M8:∀ (sz:Nat) (t:T),SizeOf.sizeOf t<=sz->Eo t->GF Tryz.prog 128 [.agg (cT t)] [] (.v (.bool (cV t))) []:=by
 intro sz
 induction sz with
 | zero=>intro t h _;cases t;simp at h
 | succ sz ih =>
 intro t b8 ij;obtain ⟨n,l⟩:=t;have Y5:=ij;rw [Eo] at ij;obtain ⟨hs,hl,hm⟩:=ij
 have how:cV (.mk n l)=(bM l&&bH (.mk n l)):=by rw [cV]
 rw [how];rw [Jn];refine ai Tryz.func128 Tryz.ntmps128 ?_;refine GW.range (aJ l).length (fun k fr Γ=>fr=[.Zy,.loc 0 0,.Zy,.Zy,.Zy,.Zy,.sl 6 (aJ l),.v (ii ((aJ l).length:Int)),.v (ii (k:Nat)),.Zy,.Zy,.Zy,.Zy,.Zy,.Zy,.Zy,.Zy,.Zy]/\Γ=[.box 56 (cT (.mk n l))]/\((l.take k).all cV)=true) ?_ (by rw [aO];exact hl) ?_ ?_ ?_
 ·exact ⟨_,_,Wk.ax al,rfl,rfl,rfl⟩
 ·rintro k _ _ ⟨rfl,rfl,_⟩;exact ⟨rfl,rfl,rfl⟩
 ·rintro k _ _ hk ⟨rfl,rfl,hf⟩
  have hk:k < l.length:=by rw [aO] at hk;exact hk
  have hx:l[k]?=some l[k]:=by simp [hk]
  have AU:=mem_of_getElem? hx;have aq:=List.sizeOf_lt_of_mem AU;have hr:=cr hx;have he:=ih l[k] (by simp at b8;omega) (Et hm AU);generalize l[k]=x at *
  cases hb:cV x with
  | true =>
   rw [hb] at he;refine ab ?_;refine U [] (he) ?_;exact ⟨rfl,rfl,_,_,(Wk.cut (n:=1) (Nat.le_of_ble_eq_true rfl) rfl).trans (Wk.ax al),rfl,rfl,by rw [take_add_one,hx,List.all_append,hf];simp only [Option.toList,all_cons,all_nil,hb];rfl⟩
  | false =>
   rw [hb] at he;refine ab ?_;refine U [] (he) ?_;refine bK ?_
   have ha:(l.all cV)=false:=by
    rw [all_eq_false];exact ⟨x,mem_of_getElem? hx,by simp [hb]⟩
   rw [ha];exact ⟨rfl,rfl⟩
 ·rintro _ _ ⟨rfl,rfl,hf⟩
  have hf:(l.all cV)=true:=by
   rw [take_of_length_le (by rw [aO];omega)] at hf;exact hf
  rw [hf];refine ab ?_;refine U [] (M9 (.mk n l) hs hl) ?_;exact ao
theorem M7 (t:T) (h:Eo t):GF Tryz.prog 128 [.agg (cT t)] [] (.v (.bool (cV t))) []:=M8 _ t (Nat.le_refl _) h
end Go.Xg
namespace Go.Xg
open Go.RowKit Go.Xw Go.Proofs
open Go.Xp (Tok Nd T bc one levels Ar)
open Go.Sp
attribute [local irreducible] GW GL GO YG GC GA aS aW
structure Ag (p:Src):Prop where
 globals:p.globals.length<=1000000000000/\∀ s∈p.globals,s.length<=1000000000000
 arrays:p.arrays.length<=1000000000000/\∀ a∈p.arrays,a.name.length<=1000000000000
 fns:p.fns.length<=1000000000000/\∀ f∈p.fns,f.name.length<=1000000000000/\f.params.length<=1000000000000/\∀ s∈f.params,s.length<=1000000000000
 nodes:p.nodes.length<=1000000000000/\∀ n∈p.nodes,n.s.length<=1000000000000/\n.kids.length<=1000000000000
theorem Ha {l:List ae} {i:Nat} {s:ae} (h:l[i]?=some s):(l.map fun s=>[GV.v (sv s)])[i]?=some [.v (sv s)]:=by rw [getElem?_map,h];rfl
theorem Ee {l:List Ar} {i:Nat} {s:Ar} (h:l[i]?=some s):(l.map az)[i]?=some (az s):=by rw [getElem?_map,h];rfl
theorem Aa {l:List Go.Sp.Fn} {i:Nat} {s:Go.Sp.Fn} (h:l[i]?=some s):(l.map au)[i]?=some (au s):=by rw [getElem?_map,h];rfl
theorem tX {α:Type} {l:List α} {q:α->Bool} {k:Nat} {x:α} (hx:l[k]?=some x) (hb:q x=false):l.all q=false:=by
 rw [all_eq_false];exact ⟨x,mem_of_getElem? hx,by simp [hb]⟩
theorem zS (p:Src) (hp:Ag p) (b:Bool) (h:ni p=some b):GF Tryz.prog 100 [.agg (ar p)] [] (.v (.bool b)) []:=by
 unfold ni at h;refine ai Tryz.func100 Tryz.ntmps100 ?_;refine GW.range (p.globals.map fun s=>[GV.v (sv s)]).length (fun k fr Γ=>fr=[.Zy,.loc 0 0,.Zy,.v (ii 0),.Zy,.Zy,.Zy,.Zy,.Zy,.Zy,.Zy,.Zy,.Zy,.Zy,.Zy,strs p.globals,.v (ii ((p.globals.map fun s=>[GV.v (sv s)]).length:Int)),.v (ii (k:Nat)),.Zy,.Zy,.Zy,.Zy,.Zy,.Zy,.Zy,.Zy,.Zy,.Zy,.Zy,.Zy,.Zy,.Zy,.Zy,.Zy,.Zy,.Zy,.Zy,.Zy,.Zy,.Zy,.Zy,.Zy,.Zy,.Zy,.Zy,.Zy,.Zy,.Zy,.Zy,.Zy,.Zy,.Zy,.Zy,.Zy,.Zy,.Zy,.Zy,.Zy,.Zy,.Zy,.Zy,.Zy,.Zy,.Zy,.Zy,.Zy,.Zy,.Zy,.Zy,.Zy,.Zy,.Zy,.Zy,.Zy,.Zy,.Zy,.Zy,.Zy,.Zy,.Zy,.Zy,.Zy,.Zy,.Zy,.Zy,.Zy,.Zy,.Zy,.Zy,.Zy,.Zy,.Zy,.Zy,.Zy,.Zy,.Zy,.Zy,.Zy,.Zy,.Zy,.Zy,.Zy,.Zy,.Zy,.Zy]/\Γ=[.box 34 (ar p)]/\((p.globals.take k).all bg)=true) ?_ (by simpa using by have:=hp.globals.1;omega) ?_ ?_ ?_
 ·exact ⟨_,_,Wk.ax al,rfl,rfl,rfl⟩
 ·rintro k _ _ ⟨rfl,rfl,_⟩;exact ⟨rfl,rfl,rfl⟩
 ·rintro k _ _ hk ⟨rfl,rfl,hf⟩
  have hk:k < p.globals.length:=by simpa using hk
  have hx:p.globals[k]?=some p.globals[k]:=by simp [hk]
  have hr:=Ha hx;have hl:=hp.globals.2 _ (mem_of_getElem? hx);generalize p.globals[k]=x at *;have he:=dS x ah
  cases hb:bg x with
  | true =>
   rw [hb] at he;refine ab ?_;refine U [] (he) ?_;exact ⟨rfl,rfl,_,_,Wk.ax al,rfl,rfl,rI hx hf hb⟩
  | false =>
   rw [hb] at he;rw [if_pos (show b6 p.globals=false from tX hx hb)] at h;cases h;refine ab ?_;refine U [] (he) ?_;exact ao
 ·rintro _ _ ⟨rfl,rfl,hf⟩;rw [take_of_length_le (by simp)] at hf;rw [if_neg (by rw [show b6 p.globals=true from hf];decide)] at h;refine ab ?_;refine GW.range (p.arrays.map az).length (fun k fr Γ=>fr=[.Zy,.loc 0 0,.Zy,.v (ii 0),.Zy,.Zy,.Zy,.Zy,.Zy,.Zy,.Zy,.Zy,.Zy,.Zy,.Zy,.Zy,.Zy,.Zy,.Zy,.Zy,.Zy,.Zy,.Zy,.Zy,.Zy,.Zy,.sl 2 (p.arrays.map az),.v (ii ((p.arrays.map az).length:Int)),.v (ii (k:Nat)),.Zy,.Zy,.Zy,.Zy,.Zy,.Zy,.Zy,.Zy,.Zy,.Zy,.Zy,.Zy,.Zy,.Zy,.Zy,.Zy,.Zy,.Zy,.Zy,.Zy,.Zy,.Zy,.Zy,.Zy,.Zy,.Zy,.Zy,.Zy,.Zy,.Zy,.Zy,.Zy,.Zy,.Zy,.Zy,.Zy,.Zy,.Zy,.Zy,.Zy,.Zy,.Zy,.Zy,.Zy,.Zy,.Zy,.Zy,.Zy,.Zy,.Zy,.Zy,.Zy,.Zy,.Zy,.Zy,.Zy,.Zy,.Zy,.Zy,.Zy,.Zy,.Zy,.Zy,.Zy,.Zy,.Zy,.Zy,.Zy,.Zy,.Zy,.Zy,.Zy,.Zy,.Zy,.Zy,.Zy]/\Γ=[.box 34 (ar p)]/\((p.arrays.take k).all nw)=true) ?_ (by simpa using by have:=hp.arrays.1;omega) ?_ ?_ ?_
  ·exact ⟨_,_,Wk.ax al,rfl,rfl,rfl⟩
  ·rintro k _ _ ⟨rfl,rfl,_⟩;exact ⟨rfl,rfl,rfl⟩
  ·rintro k _ _ hk ⟨rfl,rfl,hf⟩
   have hk:k < p.arrays.length:=by simpa using hk
   have hx:p.arrays[k]?=some p.arrays[k]:=by simp [hk]
   have hr:=Ee hx;have hl:=hp.arrays.2 _ (mem_of_getElem? hx);generalize p.arrays[k]=x at *;have he:=dS x.name ah
   cases hb:bg x.name with
   | false =>
    rw [hb] at he;rw [if_pos (tX hx (by simp [nw,hb]))] at h;cases h;refine ab ?_;refine U [] (he) ?_;exact ao
   | true =>
    rw [hb] at he
    cases h1:decide (x.size < 0) with
    | true =>
     rw [if_pos (tX hx (by simp only [nw,hb,h1];rfl))] at h;cases h;refine ab ?_;refine U [] (he) ?_;exact ao
    | false =>
     cases h2:decide (2147483647 < x.size) with
     | true =>
      rw [if_pos (tX hx (by simp only [nw,hb,h1,h2];rfl))] at h;cases h;refine ab ?_;refine U [] (he) ?_;exact ao
     | false =>
      refine ab ?_;refine U [] (he) ?_;exact ⟨rfl,rfl,_,_,(Wk.cut (n:=1) (Nat.le_of_ble_eq_true rfl) rfl).trans (Wk.ax al),rfl,rfl,rI hx hf (by simp only [nw,hb,h1,h2];rfl)⟩
  ·rintro _ _ ⟨rfl,rfl,hf⟩;rw [take_of_length_le (by simp)] at hf;rw [if_neg (by rw [hf];decide)] at h;refine ab ?_;refine GW.range (p.fns.map au).length (fun k fr Γ=>∃ nx,fr=[.Zy,.loc 0 0,.Zy,.v (ii nx),.Zy,.Zy,.Zy,.Zy,.Zy,.Zy,.Zy,.Zy,.Zy,.Zy,.Zy,.Zy,.Zy,.Zy,.Zy,.Zy,.Zy,.Zy,.Zy,.Zy,.Zy,.Zy,.Zy,.Zy,.Zy,.Zy,.Zy,.Zy,.Zy,.Zy,.Zy,.Zy,.Zy,.Zy,.Zy,.Zy,.Zy,.Zy,.Zy,.Zy,.Zy,.Zy,.Zy,.Zy,.sl 3 (p.fns.map au),.v (ii ((p.fns.map au).length:Int)),.v (ii (k:Nat)),.Zy,.Zy,.Zy,.Zy,.Zy,.Zy,.Zy,.Zy,.Zy,.Zy,.Zy,.Zy,.Zy,.Zy,.Zy,.Zy,.Zy,.Zy,.Zy,.Zy,.Zy,.Zy,.Zy,.Zy,.Zy,.Zy,.Zy,.Zy,.Zy,.Zy,.Zy,.Zy,.Zy,.Zy,.Zy,.Zy,.Zy,.Zy,.Zy,.Zy,.Zy,.Zy,.Zy,.Zy,.Zy,.Zy,.Zy,.Zy,.Zy,.Zy,.Zy,.Zy,.Zy,.Zy]/\Γ=[.box 34 (ar p)]/\0<=nx/\(match fB p.nodes (p.fns.drop k) nx with | none=>none | some none=>some false | some (some next)=>some (next==(p.nodes.length:Int)&&decide (next<=800)))=some b) ?_ (by simpa using by have:=hp.fns.1;omega) ?_ ?_ ?_
   ·exact ⟨_,_,Wk.ax al,_,rfl,rfl,Int.le_refl _,h⟩
   ·rintro k _ _ ⟨_,rfl,rfl,_⟩;exact ⟨rfl,rfl,rfl⟩
   ·clear h hf;rintro k _ _ hk ⟨nx,rfl,rfl,py,h⟩
    have hk:k < p.fns.length:=by simpa using hk
    have hx:p.fns[k]?=some p.fns[k]:=by simp [hk]
    have hr:=Aa hx;have hl:=hp.fns.2 _ (mem_of_getElem? hx);rw [List.drop_eq_getElem_cons hk,fB] at h;generalize p.fns[k]=x at *
    cases he:ny p.nodes (fN p.nodes) nx.toNat 0 with
    | none=>rw [he] at h;cases h
    | some e =>
    rw [he] at h;simp only at h;have vj:=Tp p hp.nodes.1 (fun n hn=>(hp.nodes.2 n hn).2) _ _ 0 _ ah he;rw [Int.toNat_of_nonneg py] at vj;have bV:=dS x.name ah
    by_cases h1:x.body=nx
    ·have ct:(x.body != nx)=false:=by simpa using h1
     cases hb:bg x.name with
     | false =>
      rw [hb] at bV;rw [if_pos (.inr (.inl hb))] at h;cases h;refine ab ?_;refine U [] (vj) ?_;refine U [] (bV) ?_;exact ao
     | true =>
      rw [hb] at bV
      by_cases h2:e < 0
      ·have pk:decide (e < 0)=true:=by simpa using h2
       rw [if_pos (.inr (.inr h2))] at h;cases h;refine ab ?_;refine U [] (vj) ?_;refine U [] (bV) ?_;exact ao
      ·have pk:decide (e < 0)=false:=by simpa using h2
       rw [if_neg (by rw [hb];simp [h1,h2])] at h;refine ab ?_;refine U [] (vj) ?_;refine U [] (bV) ?_;refine GW.range (x.params.map fun s=>[GV.v (sv s)]).length (fun j fr Γ=>fr=[.Zy,.loc 0 0,.Zy,.v (ii nx),.Zy,.Zy,.Zy,.Zy,.Zy,.loc 1 0,.v (ii e),.Zy,.Zy,.Zy,.Zy,.Zy,.Zy,.Zy,.Zy,.Zy,.Zy,.Zy,.Zy,.Zy,.Zy,.Zy,.Zy,.Zy,.Zy,.Zy,.Zy,.Zy,.Zy,.Zy,.Zy,.Zy,.Zy,.Zy,.Zy,.Zy,.Zy,.Zy,.Zy,.Zy,.Zy,.Zy,.Zy,.Zy,.sl 3 (p.fns.map au),.v (ii ((p.fns.map au).length:Int)),.v (ii (k:Nat)),.Zy,.Zy,.Zy,.Zy,.Zy,.Zy,.Zy,.Zy,.Zy,.Zy,.Zy,.Zy,.Zy,.Zy,.Zy,.Zy,.Zy,.Zy,.Zy,.Zy,.Zy,strs x.params,.v (ii ((x.params.map fun s=>[GV.v (sv s)]).length:Int)),.v (ii (j:Nat)),.Zy,.Zy,.Zy,.Zy,.Zy,.Zy,.Zy,.Zy,.Zy,.Zy,.Zy,.Zy,.Zy,.Zy,.Zy,.Zy,.Zy,.Zy,.Zy,.Zy,.Zy,.Zy,.Zy,.Zy,.Zy,.Zy,.Zy,.Zy,.Zy,.Zy]/\Γ=[.box 34 (ar p),.box 85 (au x)]/\((x.params.take j).all bg)=true) ?_ (by simpa using by omega) ?_ ?_ ?_
       ·exact ⟨_,_,Wk.ax al,rfl,rfl,rfl⟩
       ·rintro k _ _ ⟨rfl,rfl,_⟩;exact ⟨rfl,rfl,rfl⟩
       ·rintro j _ _ hj ⟨rfl,rfl,hf⟩
        have hj:j < x.params.length:=by simpa using hj
        have qY:x.params[j]?=some x.params[j]:=by simp [hj]
        have Gt:=Ha qY;have fV:=hl.2.2 _ (mem_of_getElem? qY);generalize x.params[j]=y at *;have bI:=dS y ah
        cases hb:bg y with
        | true =>
         rw [hb] at bI;refine ab ?_;refine U [] (bI) ?_;exact ⟨rfl,rfl,_,_,Wk.ax al,rfl,rfl,rI qY hf hb⟩
        | false =>
         rw [hb] at bI;rw [if_pos (show b6 x.params=false from tX qY hb)] at h;cases h;refine ab ?_;refine U [] (bI) ?_;exact ao
       ·rintro _ _ ⟨rfl,rfl,hf⟩;rw [take_of_length_le (by simp)] at hf;rw [if_neg (by rw [show b6 x.params=true from hf];decide)] at h
        cases hs:sub p.nodes (fN p.nodes) nx.toNat with
        | none=>rw [hs] at h;cases h
        | some t =>
        rw [hs] at h;simp only at h;have oR:=CM p (fun n hn=>(hp.nodes.2 n hn).2) _ _ _ hs;rw [Int.toNat_of_nonneg py] at oR;have aM:=M7 t ((SX (fun n hn=>by have:=hp.nodes.2 n hn;omega) _).1 _ _ hs)
        by_cases h3:t.n.kind=14
        ·have jx:(t.n.kind != 14)=false:=by simpa using h3
         cases hb:cV t with
         | false =>
          rw [hb] at aM;rw [if_pos (.inr hb)] at h;cases h;refine ab ?_;refine U [] (oR) ?_;refine U [] (aM) ?_;exact ao
         | true =>
          rw [hb] at aM;rw [if_neg (by rw [hb];simp [h3])] at h;refine ab ?_;refine U [] (oR) ?_;refine U [] (aM) ?_;exact ⟨rfl,rfl,_,_,(Wk.cut (n:=1) (Nat.le_of_ble_eq_true rfl) rfl).trans (Wk.ax al),_,rfl,rfl,by omega,h⟩
        ·have jx:(t.n.kind != 14)=true:=by simpa using h3
         rw [if_pos (.inl h3)] at h;cases h;refine ab ?_;refine U [] (oR) ?_;exact ao
    ·have ct:(x.body != nx)=true:=by simpa using h1
     rw [if_pos (.inl h1)] at h;cases h;refine ab ?_;refine U [] (vj) ?_;exact ao
   ·clear h hf;rintro _ _ ⟨nx,rfl,rfl,py,h⟩;rw [length_map,List.drop_length,fB] at h;simp only at h;cases h
    cases h1:(nx==(p.nodes.length:Int)) with
    | false =>
     have ct:(nx==((p.nodes.map aw).length:Int))=false:=by rw [length_map];exact h1
     exact av
    | true =>
     have ct:(nx==((p.nodes.map aw).length:Int))=true:=by rw [length_map];exact h1
     exact av
end Go.Xg
namespace Go.Xg
open Go.RowKit Go.Xw Go.Proofs
open Go.Xp (Tok Nd T bc one levels Ar)
open Go.Sp
attribute [local irreducible] GW GL GO YG GC GA aS aW
def lW (k:Int) (s:ae):Int:=if k=6 then (match levels.findIdx? (fun l=>l.contains s) with | some i=>(i:Int) | none => -1) else 9
theorem Ik (t:T):GF Tryz.prog 217 [.agg (cT t)] [] (.v (.int .i64 (lW t.n.kind t.n.s))) []:=by
 refine cP Tryz.func217 Tryz.ntmps217 ?_
 by_cases h6:t.n.kind=6
 ·have W6:(t.n.kind != 6)=false:=by simpa using h6
  unfold lW;rw [if_pos h6];refine ab ?_;refine U [] (iU) ?_;refine GW.range (levels.map fun l=>[strs l]).length (fun k fr Γ=>fr=[.Zy,.loc 0 0,.Zy,.Zy,.Zy,.Zy,.Zy,.Zy,.Zy,.Zy,.Zy,.sl 1 (levels.map fun l=>[strs l]),.v (ii ((levels.map fun l=>[strs l]).length:Int)),.v (ii (k:Nat)),.Zy,.Zy,.Zy,.Zy,.Zy,.Zy,.Zy,.Zy,.Zy,.Zy,.Zy]/\Γ=[.box 56 (cT t)]/\((levels.take k).any fun l=>l.contains t.n.s)=false) ?_ (by decide) ?_ ?_ ?_
  ·exact ⟨_,_,Wk.ax al,rfl,rfl,rfl⟩
  ·rintro k _ _ ⟨rfl,rfl,_⟩;exact ⟨rfl,rfl,rfl⟩
  ·rintro k _ _ hk ⟨rfl,rfl,hf⟩
   have hk:k < levels.length:=by simpa using hk
   have hx:levels[k]?=some levels[k]:=by simp [hk]
   have hr:(levels.map fun l=>[strs l])[k]?=some [strs levels[k]]:=by simp [hk]
   have yd:levels[k].length<=1099511627776:=by
    have:∀ l∈levels,l.length<=1099511627776:=by decide
    exact this _ (List.getElem_mem hk)
   have x5:levels[k].contains t.n.s=true->levels.findIdx? (fun l=>l.contains t.n.s)=some k:=by
    intro hc;rw [List.findIdx?_eq_some_iff_getElem];refine ⟨hk,hc,fun j hj=>?_⟩;rw [List.any_eq_false] at hf;refine hf _ ?_;rw [List.mem_take_iff_getElem];exact ⟨j,by omega,rfl⟩
   generalize levels[k]=x at *;have hh:=gL x t.n.s yd
   cases hb:x.contains t.n.s with
   | true =>
    rw [hb] at hh;rw [x5 hb];refine ab ?_;refine U [] (hh) ?_;exact ao
   | false =>
    rw [hb] at hh;refine ab ?_;refine U [] (hh) ?_;exact ⟨rfl,rfl,_,_,Wk.ax al,rfl,rfl,by rw [take_add_one,hx,List.any_append,hf];simp only [Option.toList,List.any_cons,List.any_nil,hb];rfl⟩
  ·rintro _ _ ⟨rfl,rfl,hf⟩;rw [take_of_length_le (by simp)] at hf
   have hn:levels.findIdx? (fun l=>l.contains t.n.s)=none:=by
    rw [List.findIdx?_eq_none_iff];intro x hx;rw [List.any_eq_false] at hf;simpa using hf x hx
   rw [hn];exact av
 ·have W6:(t.n.kind != 6)=true:=by simpa using h6
  unfold lW;rw [if_neg h6];refine ab ?_;refine U [] (iU) ?_;exact ao
end Go.Xg
namespace Go.Xg
open Go.RowKit Go.Xw Go.Proofs
open Go.Xp (Tok Nd T bc one levels Ar xJ ca n8)
open Go.Sp
attribute [local irreducible] GW GL GO YG GC GA aS aW
theorem Ph (n:Int):GF Tryz.prog 243 [.v (ii n)] [] (.v (ii (n % 4294967296))) []:=by
 refine ai Tryz.func243 Tryz.ntmps243 ?_;exact ao
theorem QL (n:Int):GF Tryz.prog 232 [.v (ii n)] [] (.v (ii (xJ n))) []:=by
 unfold xJ
 have hb:0<=n % 4294967296/\n % 4294967296 < 4294967296:=by omega
 have hp:=Ph n;generalize n % 4294967296=m at *;refine cP Tryz.func232 Tryz.ntmps232 ?_
 by_cases h:m > 2147483647
 ·have h':decide ((2147483647:Int) < m)=true:=by simpa using h
  rw [if_pos h];refine ab ?_;refine U [] (hp) ?_;exact ao
 ·have h':decide ((2147483647:Int) < m)=false:=by simpa using h
  rw [if_neg h];refine ab ?_;refine U [] (hp) ?_;exact ao
theorem wZ (k:Nat) (h:k<=57):[[GV.v (.int .u8 (k:Int))]]=[UInt8.ofNat k].map fun c=>[GV.v (.int .u8 (c.toNat:Int))]:=by
 have:(UInt8.ofNat k).toNat=k:=by simp;omega
 simp [this]
theorem Fk (n:Nat) (hn:n<=1099511627776):GF Tryz.prog 233 [.v (ii (n:Int))] [] (.v (sv (ca n))) []:=by
 induction n using Nat.strongRecOn with
 | _ n ih =>
 unfold ca;refine cP Tryz.func233 Tryz.ntmps233 ?_
 by_cases h:n < 10
 ·have h':decide ((n:Int) < 10)=true:=by simpa using by omega
  have hw:=wZ (48+n) ah;rw [Int.natCast_add] at hw;rw [dif_pos h];refine ab ?_;refine bJ ?_;exact av
 ·have h':decide ((n:Int) < 10)=false:=by simpa using by omega
  rw [dif_neg h];have hc:=ih (n / 10) ah ah;have hl:=n8 (n / 10);have hw:=wZ (48+n % 10) ah;rw [Int.natCast_add] at hw;refine ab ?_;refine GW.draw (.q 0 (.q 1 (.q 3 (.q 4 (.q 5 (.q 6 (.f 2 (.a 7 (.q 8 (.q 9 (.q 10 .nil)))) 7 (.q 8 (.a 2 (.q 9 (.q 10 .nil))))))))))) (by kernel_rfl) (by kernel_rfl) ?_;refine aj ?_;refine GO.fork ?_ ?_
  ·refine aC [] (hc) ?_;refine dv ?_;refine aj ?_;exact av
  ·refine dv ?_;refine aj ?_;refine aC [] (hc) ?_;exact av
end Go.Xg
namespace Go.Xg
open Go.RowKit Go.Xw Go.Proofs
open Go.Xp (Tok Nd T bc one levels Ar xJ ca n8 E S er aI wt ep pj dJ bx)
open Go.Sp
attribute [local irreducible] GW GL GO YG GC GA aS aW
theorem dU {nd:Nd} {l l':List T} {k v:Int} {s:ae} (h:er (.mk nd l)=.mk ⟨k,0,v,s,[]⟩ l'):nd.kind=k/\nd.n=v/\nd.s=s/\aI l=l':=by
 rw [er] at h
 injection h with h1 h2
 injection h1 with a b c d e
 exact ⟨a,c,d,h2⟩
theorem ve {l:List T} {x:T} (h:aI l=[x]):∃ t,l=[t]/\er t=x:=by
 match l,h with
 | [t],h=>rw [aI,aI] at h;injection h with h1;exact ⟨t,rfl,h1⟩
 | [],h=>rw [aI] at h;cases h
 | t::u::r,h=>rw [aI,aI] at h;injection h with h1 h2;cases h2
theorem AG {l:List T} {x y:T} (h:aI l=[x,y]):∃ t u,l=[t,u]/\er t=x/\er u=y:=by
 match l,h with
 | t::r,h =>
  rw [aI] at h;injection h with h1 h2
  obtain ⟨u,rfl,h3⟩:=ve h2;exact ⟨t,u,rfl,h1,h3⟩
 | [],h=>rw [aI] at h;cases h
theorem Vu {l:List T} {x y z:T} (h:aI l=[x,y,z]):∃ t u w,l=[t,u,w]/\er t=x/\er u=y/\er w=z:=by
 match l,h with
 | t::r,h =>
  rw [aI] at h;injection h with h1 h2
  obtain ⟨u,w,rfl,h3,h4⟩:=AG h2;exact ⟨t,u,w,rfl,h1,h3,h4⟩
 | [],h=>rw [aI] at h;cases h
theorem NR {a:E} (h:a.ok=true) {t:T} (ht:er t=a.tree):lW t.n.kind t.n.s=(a.lv:Int):=by
 obtain ⟨nd,l⟩:=t
 cases a with
 | bin s a b =>
  obtain ⟨h1,_,h2,_⟩:=dU ht;simp only [E.ok,Bool.and_eq_true] at h;have h9:=(Go.Xp.ox h.1.1).1;simp only [T.n,h1,h2,lW,if_pos,E.lv];unfold dJ at h9 |-
  cases hf:levels.findIdx? (fun l=>l.contains s) with
  | none=>rw [hf] at h9;exact absurd h9 (by decide)
  | some i=>rfl
 | num n=>obtain ⟨h1,_⟩:=dU ht;simp only [T.n,h1,lW];rfl
 | name n=>obtain ⟨h1,_⟩:=dU ht;simp only [T.n,h1,lW];rfl
 | at_ s a=>obtain ⟨h1,_⟩:=dU ht;simp only [T.n,h1,lW];rfl
 | call s a=>obtain ⟨h1,_⟩:=dU ht;simp only [T.n,h1,lW];rfl
 | un s a=>obtain ⟨h1,_⟩:=dU ht;simp only [T.n,h1,lW];rfl
theorem p9 {a:E} (h:a.ok=true) {t:T} (ht:er t=a.tree):GF Tryz.prog 217 [.agg (cT t)] [] (.v (ii (a.lv:Int))) []:=by
 have:=Ik t;rw [NR h ht] at this;exact this
theorem Br (n:Int) (h:0<=n/\n<=2147483647):GF Tryz.prog 218 [.v (ii n)] [] (.v (sv (ca n.toNat))) []:=by
 have hw:=QL n
 have nO:xJ n=n:=by unfold xJ;rw [show n % 4294967296=n by omega,if_neg ah]
 rw [nO] at hw;have hd:=Fk n.toNat ah;rw [Int.toNat_of_nonneg h.1] at hd
 have h':decide (n < 0)=false:=by simpa using h.1
 refine ai Tryz.func218 Tryz.ntmps218 ?_;refine U [] (hw) ?_;refine U [] (hd) ?_;exact ao
abbrev eo:Nat:=1000000000000
def qp (a:E):Prop:=∀ (t:T) (k:Nat),a.ok=true->er t=a.tree->wt a.tree<=eo->¬ a.lv < k->GF Tryz.prog 190 [.agg (cT t),.v (ii (k:Int))] [] (.v (sv a.txt)) []
def nF (a:E):Prop:=∀ (t:T) (k:Nat),a.ok=true->er t=a.tree->wt a.tree<=eo->GF Tryz.prog 190 [.agg (cT t),.v (ii (k:Int))] [] (.v (sv (pj a.lv k a.txt))) []
theorem qp.p {a:E} (C:qp a):nF a:=by
 intro t k ho ht hb;unfold pj
 by_cases h:a.lv < k
 ·rw [if_pos h]
  have h':decide ((a.lv:Int) < (k:Int))=true:=by simpa using h
  have hl:=(E.len a ho).1;have h0:=C t 0 ho ht hb ah;have Gk:=hb;unfold eo at Gk;generalize a.txt=x at *;refine ai Tryz.func190 Tryz.ntmps190 ?_;refine U [] (p9 ho ht) ?_;refine U [] (h0) ?_;exact ao
 ·rw [if_neg h];exact C t k ho ht hb h
theorem K7 (n:Int):qp (.num n):=by
 intro t k ho ht hb h
 have h':decide (((E.num n).lv:Int) < (k:Int))=false:=by simpa using h
 have hg:=p9 ho ht;obtain ⟨⟨kk,aa,vv,ss,ks⟩,l⟩:=t;obtain ⟨h1,h2,h3,hl⟩:=dU ht;simp only at h1 h2 h3;subst h1 h2 h3;simp only [E.ok,Bool.and_eq_true] at ho;have hn:=Br vv ⟨of_decide_eq_true ho.1,of_decide_eq_true ho.2⟩;rw [E.txt];simp only [cT,T.n,T.kids] at hg |-;refine ai Tryz.func190 Tryz.ntmps190 ?_;refine U [] (hg) ?_;refine U [] (hn) ?_;exact ao
theorem It (s:ae):qp (.name s):=by
 intro t k ho ht hb h
 have h':decide (((E.name s).lv:Int) < (k:Int))=false:=by simpa using h
 have hg:=p9 ho ht;obtain ⟨⟨kk,aa,vv,ss,ks⟩,l⟩:=t;obtain ⟨h1,h2,h3,hl⟩:=dU ht;simp only at h1 h2 h3;subst h1 h2 h3;rw [E.txt];simp only [cT,T.n,T.kids] at hg |-;refine ai Tryz.func190 Tryz.ntmps190 ?_;refine U [] (hg) ?_;exact ao
theorem Ni (s:ae) (a:E) (C:nF a):qp (.at_ s a):=by
 intro t k ho ht hb h
 have h':decide (((E.at_ s a).lv:Int) < (k:Int))=false:=by simpa using h
 have hg:=p9 ho ht;obtain ⟨⟨kk,aa,vv,ss,ks⟩,l⟩:=t;obtain ⟨h1,h2,h3,hl⟩:=dU ht;simp only at h1 h2 h3;subst h1 h2 h3;obtain ⟨x,rfl,hx⟩:=ve hl;simp only [E.ok,Bool.and_eq_true] at ho;rw [E.tree,wt] at hb;simp only [ep,eo] at hb;have hc:=C x 0 ho.2 hx (by unfold eo;omega);unfold pj at hc;rw [if_neg ah] at hc;have hle:=(E.len a ho.2).1;have hr:(aJ [x])[0]?=some (cT x):=cr rfl;rw [E.txt];generalize a.txt=y at *;simp only [cT,T.n,T.kids] at hg |-;refine ai Tryz.func190 Tryz.ntmps190 ?_;refine U [] (hg) ?_;refine GW.draw (.q 0 (.q 1 (.q 2 (.q 3 (.q 4 (.q 5 (.q 6 (.q 7 (.a 8 (.q 9 (.q 10 (.q 11 .nil)))))))))))) (by kernel_rfl) (by kernel_rfl) ?_;refine aj ?_;refine aC [] (hc) ?_;exact av
theorem Nj (s:ae) (a:E) (C:nF a):qp (.un s a):=by
 intro t k ho ht hb h
 have h':decide (((E.un s a).lv:Int) < (k:Int))=false:=by simpa using h
 have hg:=p9 ho ht;obtain ⟨⟨kk,aa,vv,ss,ks⟩,l⟩:=t;obtain ⟨h1,h2,h3,hl⟩:=dU ht;simp only at h1 h2 h3;subst h1 h2 h3;obtain ⟨x,rfl,hx⟩:=ve hl;simp only [E.ok,Bool.and_eq_true] at ho;rw [E.tree,wt] at hb;simp only [ep,eo] at hb;have hc:=C x 9 ho.2 hx (by unfold eo;omega);have hle:=(E.len a ho.2).1;have yJ:=Go.Xp.rj a.lv 9 a.txt;have hr:(aJ [x])[0]?=some (cT x):=cr rfl;rw [E.txt];generalize pj a.lv 9 a.txt=y at *;simp only [cT,T.n,T.kids] at hg |-;refine ai Tryz.func190 Tryz.ntmps190 ?_;refine U [] (hg) ?_;refine GW.draw (.q 0 (.q 1 (.q 2 (.q 3 (.q 4 (.q 5 (.q 6 (.q 7 (.a 8 (.q 9 (.a 10 (.q 11 (.q 12 .nil))))))))))))) (by kernel_rfl) (by kernel_rfl) ?_;refine aj ?_;refine aC [] (iU) ?_;refine aC [] (hc) ?_;exact av
theorem KZ (s:ae) (a b:E) (Ca:nF a) (Cb:nF b):qp (.bin s a b):=by
 intro t k ho ht hb h
 have h':decide (((E.bin s a b).lv:Int) < (k:Int))=false:=by simpa using h
 have hg:=p9 ho ht;obtain ⟨⟨kk,aa,vv,ss,ks⟩,l⟩:=t;obtain ⟨h1,h2,h3,hl⟩:=dU ht;simp only at h1 h2 h3;subst h1 h2 h3;obtain ⟨x,y,rfl,hx,hy⟩:=AG hl;simp only [E.ok,Bool.and_eq_true] at ho;rw [E.tree,wt] at hb;simp only [ep,eo] at hb;have Rr:=Ca x (dJ ss) ho.1.2 hx (by unfold eo;omega);have xY:=Cb y (dJ ss+1) ho.2 hy (by unfold eo;omega);have Gp:=(Go.Xp.ox ho.1.1).1;have hle:=(E.len a ho.1.2).1;have yJ:=Go.Xp.rj a.lv (dJ ss) a.txt;have VZ:=(E.len b ho.2).1;have YO:=Go.Xp.rj b.lv (dJ ss+1) b.txt;have hr:(aJ [x,y])[0]?=some (cT x):=cr rfl;have dd:(aJ [x,y])[1]?=some (cT y):=cr rfl;rw [E.txt];simp only [E.lv] at hg h';generalize pj a.lv (dJ ss) a.txt=u at *;generalize pj b.lv (dJ ss+1) b.txt=w at *;simp only [cT,T.n,T.kids] at hg |-;refine ai Tryz.func190 Tryz.ntmps190 ?_;refine U [] (hg) ?_;refine U [] (hg) ?_;refine GW.draw (.q 0 (.q 1 (.q 2 (.q 3 (.q 4 (.q 7 (.q 8 (.q 9 (.q 12 (.q 13 (.q 14 (.q 15 (.q 16 (.q 17 (.a 5 (.q 6 (.q 10 (.q 11 (.a 18 (.q 19 (.q 20 .nil))))))))))))))))))))) (by kernel_rfl) (by kernel_rfl) ?_;refine aj ?_;refine aC [] (Rr) ?_;refine aC [] (xY) ?_;exact av
end Go.Xg
namespace Go.Xg
open Go.RowKit Go.Xw Go.Proofs
open Go.Xp (Tok Nd T bc one levels Ar ca E S er aI wt ep pj dJ bx zR vm)
open Go.Sp
attribute [local irreducible] GW GL GO YG GC GA aS aW
def HE (b:Bool) (a:E):Prop:=∀ t,er t=a.tree->GF Tryz.prog 152 [.agg (cT t),.v (.bool b)] [] (.v (sv (a.out b))) []
theorem JM:∀ {ts:List T} {es:List E} (h:aI ts=E.trees es),ts.length=es.length/\∀ (k:Nat) t a,ts[k]?=some t->es[k]?=some a->er t=a.tree
 | [],[],_=>⟨rfl,fun k t a h=>by simp at h⟩
 | [],a::l,h=>by rw [aI,E.trees] at h;cases h
 | t::r,[],h=>by rw [aI,E.trees] at h;cases h
 | t::r,a::l,h=>by
  rw [aI,E.trees] at h
  injection h with h1 h2
  obtain ⟨h3,h4⟩:=JM h2;refine ⟨by simp [h3],fun k t' a' ht ha=>?_⟩
  cases k with
  | zero=>cases ht;cases ha;exact h1
  | succ k=>exact h4 k t' a' (by simpa using ht) (by simpa using ha)
theorem B3 (b:Bool) (es:List E) (C:∀ a∈es,HE b a) (ts:List T) (r8:aI ts=E.trees es) (hb:(bx (es.map (E.out b))).length<=eo) (hn:es.length<=eo) :
  GF Tryz.prog 219 [.sl 6 (aJ ts),.v (.bool b)] [] (.v (sv (bx (es.map (E.out b))))) []:=by
 obtain ⟨hlen,vP⟩:=JM r8;unfold eo at hb hn;refine ai Tryz.func219 Tryz.ntmps219 ?_;refine GW.range (aJ ts).length (fun k fr Γ=>∃ y,fr=[.Zy,.v (.bool b),.Zy,.Zy,.Zy,.v (sv y),.Zy,.Zy,.sl 6 (aJ ts),.v (ii ((aJ ts).length:Int)),.v (ii (k:Nat)),.Zy,.Zy,.Zy,.Zy,.Zy,.Zy,.Zy,.Zy,.Zy,.Zy,.Zy,.Zy,.Zy,.Zy,.Zy]/\Γ=[]/\y=bx ((es.map (E.out b)).take k)) ?_ (by rw [aO];omega) ?_ ?_ ?_
 ·exact ⟨_,_,Wk.ax al,[],rfl,rfl,by simp [bx]⟩
 ·rintro k _ _ ⟨y,rfl,rfl,_⟩;exact ⟨rfl,rfl,rfl⟩
 ·rintro k _ _ hk ⟨y,rfl,rfl,hy⟩
  have hk:k < es.length:=by rw [aO,hlen] at hk;exact hk
  have vR:k < ts.length:=by omega
  have hx:es[k]?=some es[k]:=by simp [hk]
  have ht:ts[k]?=some ts[k]:=by simp [vR]
  have he:=vP k _ _ ht hx;have hr:=cr ht;have hc:=C _ (mem_of_getElem? hx) _ he;have wC:=vm (es.map (E.out b)) (k+1);have VT:=vm (es.map (E.out b)) k
  have jz:(es.map (E.out b)).take (k+1)=(es.map (E.out b)).take k++[es[k].out b]:=by
   rw [take_add_one,getElem?_map,hx];rfl
  rw [jz] at wC;generalize ts[k]=t at *;generalize es[k]=a at *;generalize a.out b=x at *
  by_cases h0:k=0
  ·subst h0
   have rS:decide ((0:Int) < ((0:Nat):Int))=false:=by decide
   have hj:bx ((es.map (E.out b)).take 0++[x])=[]++x:=by simp [bx]
   have OE:bx ((es.map (E.out b)).take 0)=[]:=by simp [bx]
   rw [OE] at hy;subst hy;rw [hj] at wC
   have wC:x.length<=(bx (es.map (E.out b))).length:=by simpa using wC
   refine ab ?_;refine U [] (hc) ?_;exact ⟨rfl,rfl,_,_,(Wk.cut (n:=0) (Nat.le_of_ble_eq_true rfl) rfl).trans (Wk.ax al),_,rfl,rfl,by rw [jz,hj]⟩
  ·have rS:decide ((0:Int) < (k:Int))=true:=by simpa using by omega
   have bO:(es.map (E.out b)).take k≠[]:=by
    intro h;rw [List.take_eq_nil_iff] at h
    rcases h with h | h
    ·exact h0 h
    ·rw [List.map_eq_nil_iff] at h;subst h;simp at hk
   have hj:=zR bO x;rw [hj] at wC;rw [<-hy] at wC hj VT;simp only [length_append,length_cons,length_nil] at wC;refine ab ?_;refine U [] (hc) ?_;exact ⟨rfl,rfl,_,_,(Wk.cut (n:=0) (Nat.le_of_ble_eq_true rfl) rfl).trans (Wk.ax al),_,rfl,rfl,by rw [jz,hj]⟩
 ·rintro _ _ ⟨y,rfl,rfl,hy⟩;have:(es.map (E.out b)).take (aJ ts).length=es.map (E.out b):=take_of_length_le (by rw [aO,hlen];simp);rw [this] at hy;subst hy;exact av
theorem nF.out {a:E} (C:nF a) (ho:a.ok=true) (hb:wt a.tree<=eo):HE true a:=by
 intro t ht;have h0:=C t 0 ho ht hb;unfold pj at h0;rw [if_neg ah] at h0;show GF _ _ _ _ (.v (sv a.txt)) _;refine ai Tryz.func152 Tryz.ntmps152 ?_;refine U [] (h0) ?_;exact ao
theorem Bm:∀ l:List E,l.length<=ep (E.trees l)
 | []=>Nat.zero_le _
 | a::l=>by
  have:=Bm l;rw [E.trees,ep,length_cons]
  have:1<=wt a.tree:=by cases a <;> (rw [E.tree,wt];omega)
  omega
theorem Bn:∀ {l:List E} {a:E},a∈l->wt a.tree<=ep (E.trees l)
 | [],_,h=>by cases h
 | b::l,a,h=>by
  rw [E.trees,ep]
  rcases List.mem_cons.1 h with rfl | h
  ·omega
  ·have:=Bn h;omega
theorem A7:∀ {l:List E} {a:E},E.cB l=true->a∈l->a.ok=true
 | [],_,_,h=>by cases h
 | b::l,a,ho,h=>by
  simp only [E.cB,Bool.and_eq_true] at ho
  rcases List.mem_cons.1 h with rfl | h
  ·exact ho.1
  ·exact A7 ho.2 h
theorem Is (s:ae) (es:List E) (C:∀ a∈es,nF a):qp (.call s es):=by
 intro t k ho ht hb h
 have h':decide (((E.call s es).lv:Int) < (k:Int))=false:=by simpa using h
 have hg:=p9 ho ht;obtain ⟨⟨kk,aa,vv,ss,ks⟩,l⟩:=t;obtain ⟨h1,h2,h3,hl⟩:=dU ht;simp only at h1 h2 h3;subst h1 h2 h3;simp only [E.ok,Bool.and_eq_true] at ho;rw [E.tree,wt] at hb;have hle:=(E.lens es ho.2).1;have hn:=Bm es
 have Dv:E.cx es=es.map (E.out true):=by rw [E.NY];rfl
 have hj:=B3 true es (fun a ha=>(C a ha).out (A7 ho.2 ha) (by have:=Bn ha;omega)) l hl (by rw [<-Dv];omega) ah;rw [<-Dv] at hj;unfold eo at hb;simp only at hb;rw [E.txt];generalize bx (E.cx es)=y at *;simp only [cT,T.n,T.kids] at hg |-;refine ai Tryz.func190 Tryz.ntmps190 ?_;refine U [] (hg) ?_;refine GW.draw (.q 0 (.q 1 (.q 2 (.q 3 (.q 4 (.q 5 (.a 6 (.q 7 (.q 8 (.q 9 .nil)))))))))) (by kernel_rfl) (by kernel_rfl) ?_;refine aj ?_;refine aC [] (hj) ?_;exact av
mutual
theorem uC:∀ a:E,nF a
 | .num n=>(K7 n).p
 | .name s=>(It s).p
 | .at_ s a=>(Ni s a (uC a)).p
 | .call s l=>(Is s l (GK l)).p
 | .un s a=>(Nj s a (uC a)).p
 | .bin s a b=>(KZ s a b (uC a) (uC b)).p
theorem GK:∀ l:List E,∀ a∈l,nF a
 | []=>fun a h=>by cases h
 | b::l=>fun a h=>by
  rcases List.mem_cons.1 h with h | h
  ·rw [h];exact uC b
  ·exact GK l a h
end
def lr (a:E):Prop:=∀ (t:T),a.ok=true->er t=a.tree->wt a.tree<=eo->GF Tryz.prog 191 [.agg (cT t)] [] (.v (sv a.full)) []
theorem lr.out {a:E} (C:lr a) (ho:a.ok=true) (hb:wt a.tree<=eo):HE false a:=by
 intro t ht;have h0:=C t ho ht hb;show GF _ _ _ _ (.v (sv a.full)) _;refine ai Tryz.func152 Tryz.ntmps152 ?_;refine U [] (h0) ?_;exact ao
theorem MM (n:Int):lr (.num n):=by
 intro t ho ht hb;obtain ⟨⟨kk,aa,vv,ss,ks⟩,l⟩:=t;obtain ⟨h1,h2,h3,hl⟩:=dU ht;simp only at h1 h2 h3;subst h1 h2 h3;simp only [E.ok,Bool.and_eq_true] at ho;have hn:=Br vv ⟨of_decide_eq_true ho.1,of_decide_eq_true ho.2⟩;rw [E.full];simp only [cT,T.n,T.kids];refine ai Tryz.func191 Tryz.ntmps191 ?_;refine U [] (hn) ?_;exact ao
theorem J6 (s:ae):lr (.name s):=by
 intro t ho ht hb;obtain ⟨⟨kk,aa,vv,ss,ks⟩,l⟩:=t;obtain ⟨h1,h2,h3,hl⟩:=dU ht;simp only at h1 h2 h3;subst h1 h2 h3;rw [E.full];simp only [cT,T.n,T.kids];refine ai Tryz.func191 Tryz.ntmps191 ?_;exact ao
theorem PF (s:ae) (a:E) (C:lr a):lr (.at_ s a):=by
 intro t ho ht hb;obtain ⟨⟨kk,aa,vv,ss,ks⟩,l⟩:=t;obtain ⟨h1,h2,h3,hl⟩:=dU ht;simp only at h1 h2 h3;subst h1 h2 h3;obtain ⟨x,rfl,hx⟩:=ve hl;simp only [E.ok,Bool.and_eq_true] at ho;rw [E.tree,wt] at hb;simp only [ep,eo] at hb;have hc:=C x ho.2 hx (by unfold eo;omega);have hle:=(E.len a ho.2).2;have hr:(aJ [x])[0]?=some (cT x):=cr rfl;rw [E.full];generalize a.full=y at *;simp only [cT,T.n,T.kids] at |-;refine ai Tryz.func191 Tryz.ntmps191 ?_;refine GW.draw (.q 0 (.q 1 (.q 2 (.q 3 (.q 4 (.q 5 (.q 6 (.q 7 (.a 8 (.q 9 (.q 10 (.q 11 .nil)))))))))))) (by kernel_rfl) (by kernel_rfl) ?_;refine aj ?_;refine aC [] (hc) ?_;exact av
theorem J5 (s:ae) (es:List E) (C:∀ a∈es,lr a):lr (.call s es):=by
 intro t ho ht hb;obtain ⟨⟨kk,aa,vv,ss,ks⟩,l⟩:=t;obtain ⟨h1,h2,h3,hl⟩:=dU ht;simp only at h1 h2 h3;subst h1 h2 h3;simp only [E.ok,Bool.and_eq_true] at ho;rw [E.tree,wt] at hb;have hle:=(E.lens es ho.2).2;have hn:=Bm es
 have Dv:E.re es=es.map (E.out false):=by rw [E.J7];rfl
 have hj:=B3 false es (fun a ha=>(C a ha).out (A7 ho.2 ha) (by have:=Bn ha;omega)) l hl (by rw [<-Dv];omega) ah;rw [<-Dv] at hj;unfold eo at hb;simp only at hb;rw [E.full];generalize bx (E.re es)=y at *;simp only [cT,T.n,T.kids] at |-;refine ai Tryz.func191 Tryz.ntmps191 ?_;refine GW.draw (.q 0 (.q 1 (.q 2 (.q 3 (.q 4 (.q 5 (.a 6 (.q 7 (.q 8 (.q 9 .nil)))))))))) (by kernel_rfl) (by kernel_rfl) ?_;refine aj ?_;refine aC [] (hj) ?_;exact av
theorem PG (s:ae) (a:E) (C:lr a):lr (.un s a):=by
 intro t ho ht hb;obtain ⟨⟨kk,aa,vv,ss,ks⟩,l⟩:=t;obtain ⟨h1,h2,h3,hl⟩:=dU ht;simp only at h1 h2 h3;subst h1 h2 h3;obtain ⟨x,rfl,hx⟩:=ve hl;simp only [E.ok,Bool.and_eq_true] at ho;rw [E.tree,wt] at hb;simp only [ep,eo] at hb;have hc:=C x ho.2 hx (by unfold eo;omega);have hle:=(E.len a ho.2).2;have hr:(aJ [x])[0]?=some (cT x):=cr rfl;rw [E.full];generalize a.full=y at *;simp only [cT,T.n,T.kids] at |-;refine ai Tryz.func191 Tryz.ntmps191 ?_;refine GW.draw (.q 0 (.q 1 (.q 2 (.q 3 (.q 4 (.q 5 (.q 6 (.q 7 (.a 8 (.q 9 (.q 10 (.q 11 .nil)))))))))))) (by kernel_rfl) (by kernel_rfl) ?_;refine aj ?_;refine aC [] (hc) ?_;exact av
theorem ML (s:ae) (a b:E) (Ca:lr a) (Cb:lr b):lr (.bin s a b):=by
 intro t ho ht hb;obtain ⟨⟨kk,aa,vv,ss,ks⟩,l⟩:=t;obtain ⟨h1,h2,h3,hl⟩:=dU ht;simp only at h1 h2 h3;subst h1 h2 h3;obtain ⟨x,y,rfl,hx,hy⟩:=AG hl;simp only [E.ok,Bool.and_eq_true] at ho;rw [E.tree,wt] at hb;simp only [ep,eo] at hb;have Rr:=Ca x ho.1.2 hx (by unfold eo;omega);have xY:=Cb y ho.2 hy (by unfold eo;omega);have hle:=(E.len a ho.1.2).2;have VZ:=(E.len b ho.2).2;have hr:(aJ [x,y])[0]?=some (cT x):=cr rfl;have dd:(aJ [x,y])[1]?=some (cT y):=cr rfl;rw [E.full];generalize a.full=u at *;generalize b.full=w at *;simp only [cT,T.n,T.kids] at |-;refine ai Tryz.func191 Tryz.ntmps191 ?_;refine GW.draw (.q 0 (.q 1 (.q 2 (.q 3 (.q 7 (.q 8 (.q 9 (.q 12 (.q 13 (.q 14 (.q 15 (.a 4 (.q 5 (.q 6 (.q 10 (.q 11 (.a 16 (.q 17 (.q 18 (.q 19 .nil)))))))))))))))))))) (by kernel_rfl) (by kernel_rfl) ?_;refine aj ?_;refine aC [] (Rr) ?_;refine aC [] (xY) ?_;exact av
mutual
theorem xo:∀ a:E,lr a
 | .num n=>MM n
 | .name s=>J6 s
 | .at_ s a=>PF s a (xo a)
 | .call s l=>J5 s l (J4 l)
 | .un s a=>PG s a (xo a)
 | .bin s a b=>ML s a b (xo a) (xo b)
theorem J4:∀ l:List E,∀ a∈l,lr a
 | []=>fun a h=>by cases h
 | b::l=>fun a h=>by
  rcases List.mem_cons.1 h with h | h
  ·rw [h];exact xo b
  ·exact J4 l a h
end
theorem oV (b:Bool) {a:E} (ho:a.ok=true) (hb:wt a.tree<=eo):HE b a:=by
 cases b with
 | true=>exact (uC a).out ho hb
 | false=>exact (xo a).out ho hb
theorem im (b:Bool) (a:E) (ho:a.ok=true):(a.out b).length+4<=wt a.tree:=by
 have:=E.len a ho
 cases b with
 | true=>exact this.1
 | false=>exact this.2
end Go.Xg
namespace Go.Xg
open Go.RowKit Go.Xw Go.Proofs
open Go.Xp (Tok Nd T bc one levels Ar ca E S er aI wt ep bB eI)
open Go.Sp
attribute [local irreducible] GW GL GO YG GC GA aS aW
theorem Hp (x:E->Go.Xp.ae):∀ (l:List S) (acc:Go.Xp.ae),acc.length<=(S.cx x acc l).length
 | [],acc=>by rw [S.cx];omega
 | a::l,acc=>by
  rw [S.cx];have:=Hp x l (acc++a.txt x++[32]);simp only [length_append,length_cons,length_nil] at this;omega
def mo (b:Bool) (s:S):Prop:=∀ t,s.ok=true->er t=s.tree->wt s.tree<=eo->GF Tryz.prog 129 [.agg (cT t),.v (.bool b)] [] (.v (sv (s.txt (E.out b)))) []
def tV (b:Bool) (l:List S):Prop:=∀ t,S.cB l=true->er t=bB l->wt (bB l)<=eo->GF Tryz.prog 129 [.agg (cT t),.v (.bool b)] [] (.v (sv (eI (E.out b) l))) []
theorem Hb:∀ {ts:List T} {es:List S} (h:aI ts=S.trees es),ts.length=es.length/\∀ (k:Nat) t a,ts[k]?=some t->es[k]?=some a->er t=a.tree
 | [],[],_=>⟨rfl,fun k t a h=>by simp at h⟩
 | [],a::l,h=>by rw [aI,S.trees] at h;cases h
 | t::r,[],h=>by rw [aI,S.trees] at h;cases h
 | t::r,a::l,h=>by
  rw [aI,S.trees] at h
  injection h with h1 h2
  obtain ⟨h3,h4⟩:=Hb h2;refine ⟨by simp [h3],fun k t' a' ht ha=>?_⟩
  cases k with
  | zero=>cases ht;cases ha;exact h1
  | succ k=>exact h4 k t' a' (by simpa using ht) (by simpa using ha)
theorem EC:∀ {l:List S} {a:S},a∈l->wt a.tree<=ep (S.trees l)
 | [],_,h=>by cases h
 | b::l,a,h=>by
  rw [S.trees,ep]
  rcases List.mem_cons.1 h with rfl | h
  ·omega
  ·have:=EC h;omega
theorem EB:∀ l:List S,l.length<=ep (S.trees l)
 | []=>Nat.zero_le _
 | a::l=>by
  have:=EB l;rw [S.trees,ep,length_cons]
  have:1<=wt a.tree:=by cases a <;> (rw [S.tree,wt];omega)
  omega
theorem Eu:∀ {l:List S} {a:S},S.cB l=true->a∈l->a.ok=true
 | [],_,_,h=>by cases h
 | b::l,a,ho,h=>by
  simp only [S.cB,Bool.and_eq_true] at ho
  rcases List.mem_cons.1 h with rfl | h
  ·exact ho.1
  ·exact Eu ho.2 h
theorem Mb (b:Bool) (s:Go.Xp.ae) (a:E):mo b (.var s a):=by
 intro t ho ht hb;obtain ⟨⟨kk,aa,vv,ss,ks⟩,l⟩:=t;obtain ⟨h1,h2,h3,hl⟩:=dU ht;simp only at h1 h2 h3;subst h1 h2 h3;obtain ⟨x0,rfl,pD⟩:=ve hl;simp only [S.ok,Bool.and_eq_true] at ho;rw [S.tree,wt] at hb;simp only [ep,eo] at hb;have oP:=oV b (a:=a) ho.2 (by unfold eo;omega) x0 pD;have wD:=im b a ho.2;have qB:(aJ [x0])[0]?=some (cT x0):=cr rfl;rw [S.txt];generalize a.out b=y0 at *;simp only [cT,T.n,T.kids];refine ai Tryz.func129 Tryz.ntmps129 ?_;refine GW.draw (.q 0 (.q 1 (.q 2 (.q 3 (.q 4 (.q 5 (.q 6 (.q 7 (.q 8 (.q 9 (.a 10 (.q 11 (.q 12 (.q 13 .nil)))))))))))))) (by kernel_rfl) (by kernel_rfl) ?_;refine aj ?_;refine aC [] (oP) ?_;exact av
theorem Ma (b:Bool) (s:Go.Xp.ae) (a:E):mo b (.set s a):=by
 intro t ho ht hb;obtain ⟨⟨kk,aa,vv,ss,ks⟩,l⟩:=t;obtain ⟨h1,h2,h3,hl⟩:=dU ht;simp only at h1 h2 h3;subst h1 h2 h3;obtain ⟨x0,rfl,pD⟩:=ve hl;simp only [S.ok,Bool.and_eq_true] at ho;rw [S.tree,wt] at hb;simp only [ep,eo] at hb;have oP:=oV b (a:=a) ho.2 (by unfold eo;omega) x0 pD;have wD:=im b a ho.2;have qB:(aJ [x0])[0]?=some (cT x0):=cr rfl;rw [S.txt];generalize a.out b=y0 at *;simp only [cT,T.n,T.kids];refine ai Tryz.func129 Tryz.ntmps129 ?_;refine GW.draw (.q 0 (.q 1 (.q 2 (.q 3 (.q 4 (.q 5 (.q 6 (.q 7 (.q 8 (.a 9 (.q 10 (.q 11 (.q 12 .nil))))))))))))) (by kernel_rfl) (by kernel_rfl) ?_;refine aj ?_;refine aC [] (oP) ?_;exact av
theorem L8 (b:Bool) (s:Go.Xp.ae) (a:E) (c:E):mo b (.put s a c):=by
 intro t ho ht hb;obtain ⟨⟨kk,aa,vv,ss,ks⟩,l⟩:=t;obtain ⟨h1,h2,h3,hl⟩:=dU ht;simp only at h1 h2 h3;subst h1 h2 h3;obtain ⟨x0,x1,rfl,pD,uy⟩:=AG hl;simp only [S.ok,Bool.and_eq_true] at ho;rw [S.tree,wt] at hb;simp only [ep,eo] at hb;have oP:=oV b (a:=a) ho.2.1 (by unfold eo;omega) x0 pD;have wD:=im b a ho.2.1;have qB:(aJ [x0,x1])[0]?=some (cT x0):=cr rfl;have rT:=oV b (a:=c) ho.2.2 (by unfold eo;omega) x1 uy;have eP:=im b c ho.2.2;have gg:(aJ [x0,x1])[1]?=some (cT x1):=cr rfl;rw [S.txt];generalize a.out b=y0 at *;generalize c.out b=y1 at *;simp only [cT,T.n,T.kids];refine ai Tryz.func129 Tryz.ntmps129 ?_;refine GW.draw (.q 0 (.q 1 (.q 2 (.q 3 (.q 4 (.q 5 (.q 6 (.q 7 (.q 8 (.q 12 (.q 13 (.q 14 (.q 15 (.q 16 (.a 9 (.q 10 (.q 11 (.a 17 (.q 18 (.q 19 (.q 20 .nil))))))))))))))))))))) (by kernel_rfl) (by kernel_rfl) ?_;refine aj ?_;refine aC [] (oP) ?_;refine aC [] (rT) ?_;exact av
theorem L6 (b:Bool) (c:E) (p:List S) (Cp:tV b p):mo b (.if1 c p):=by
 intro t ho ht hb;obtain ⟨⟨kk,aa,vv,ss,ks⟩,l⟩:=t;obtain ⟨h1,h2,h3,hl⟩:=dU ht;simp only at h1 h2 h3;subst h1 h2 h3;obtain ⟨x0,x1,rfl,pD,uy⟩:=AG hl;simp only [S.ok,Bool.and_eq_true] at ho;rw [S.tree,wt] at hb;simp only [ep,eo] at hb;have oP:=oV b (a:=c) ho.1 (by unfold eo;omega) x0 pD;have wD:=im b c ho.1;have qB:(aJ [x0,x1])[0]?=some (cT x0):=cr rfl;have rT:=Cp x1 ho.2 uy (by unfold eo bB;omega);have eP:=Go.Xp.ri (E.out b) (im b) ho.2;rw [bB] at eP;have gg:(aJ [x0,x1])[1]?=some (cT x1):=cr rfl;rw [S.txt];generalize c.out b=y0 at *
 change GF _ _ _ _ (.v (sv _)) _ at rT
 unfold eI at rT eP;generalize S.cx (E.out b) [123,32] p++[125]=y1 at *;simp only [cT,T.n,T.kids];refine ai Tryz.func129 Tryz.ntmps129 ?_;refine GW.draw (.q 0 (.q 1 (.q 2 (.q 3 (.q 4 (.q 8 (.q 9 (.q 10 (.q 11 (.q 12 (.a 5 (.q 6 (.q 7 (.a 13 (.q 14 (.q 15 .nil)))))))))))))))) (by kernel_rfl) (by kernel_rfl) ?_;refine aj ?_;refine aC [] (oP) ?_;refine aC [] (rT) ?_;exact av
theorem L7 (b:Bool) (c:E) (p:List S) (q:List S) (Cp:tV b p) (Cq:tV b q):mo b (.if2 c p q):=by
 intro t ho ht hb;obtain ⟨⟨kk,aa,vv,ss,ks⟩,l⟩:=t;obtain ⟨h1,h2,h3,hl⟩:=dU ht;simp only at h1 h2 h3;subst h1 h2 h3;obtain ⟨x0,x1,x2,rfl,pD,uy,Gw⟩:=Vu hl;simp only [S.ok,Bool.and_eq_true] at ho;rw [S.tree,wt] at hb;simp only [ep,eo] at hb;have oP:=oV b (a:=c) ho.1 (by unfold eo;omega) x0 pD;have wD:=im b c ho.1;have qB:(aJ [x0,x1,x2])[0]?=some (cT x0):=cr rfl;have rT:=Cp x1 ho.2.1 uy (by unfold eo bB;omega);have eP:=Go.Xp.ri (E.out b) (im b) ho.2.1;rw [bB] at eP;have gg:(aJ [x0,x1,x2])[1]?=some (cT x1):=cr rfl;have jh:=Cq x2 ho.2.2 Gw (by unfold eo bB;omega);have jR:=Go.Xp.ri (E.out b) (im b) ho.2.2;rw [bB] at jR;have dd:(aJ [x0,x1,x2])[2]?=some (cT x2):=cr rfl;rw [S.txt];generalize c.out b=y0 at *
 change GF _ _ _ _ (.v (sv _)) _ at rT
 unfold eI at rT eP;generalize S.cx (E.out b) [123,32] p++[125]=y1 at *
 change GF _ _ _ _ (.v (sv _)) _ at jh
 unfold eI at jh jR;generalize S.cx (E.out b) [123,32] q++[125]=y2 at *;simp only [cT,T.n,T.kids];refine ai Tryz.func129 Tryz.ntmps129 ?_;refine GW.draw (.q 0 (.q 1 (.q 2 (.q 3 (.q 4 (.q 8 (.q 9 (.q 10 (.q 11 (.q 12 (.a 5 (.q 6 (.q 7 (.a 13 (.q 14 (.q 15 .nil)))))))))))))))) (by kernel_rfl) (by kernel_rfl) ?_;refine aj ?_;refine aC [] (oP) ?_;refine aC [] (rT) ?_;refine ab ?_;refine U [] (jh) ?_;exact ao
theorem FH (b:Bool) (c:E) (p:List S) (Cp:tV b p):mo b (.while_ c p):=by
 intro t ho ht hb;obtain ⟨⟨kk,aa,vv,ss,ks⟩,l⟩:=t;obtain ⟨h1,h2,h3,hl⟩:=dU ht;simp only at h1 h2 h3;subst h1 h2 h3;obtain ⟨x0,x1,rfl,pD,uy⟩:=AG hl;simp only [S.ok,Bool.and_eq_true] at ho;rw [S.tree,wt] at hb;simp only [ep,eo] at hb;have oP:=oV b (a:=c) ho.1 (by unfold eo;omega) x0 pD;have wD:=im b c ho.1;have qB:(aJ [x0,x1])[0]?=some (cT x0):=cr rfl;have rT:=Cp x1 ho.2 uy (by unfold eo bB;omega);have eP:=Go.Xp.ri (E.out b) (im b) ho.2;rw [bB] at eP;have gg:(aJ [x0,x1])[1]?=some (cT x1):=cr rfl;rw [S.txt];generalize c.out b=y0 at *
 change GF _ _ _ _ (.v (sv _)) _ at rT
 unfold eI at rT eP;generalize S.cx (E.out b) [123,32] p++[125]=y1 at *;simp only [cT,T.n,T.kids];refine ai Tryz.func129 Tryz.ntmps129 ?_;refine GW.draw (.q 0 (.q 1 (.q 2 (.q 3 (.q 4 (.q 8 (.q 9 (.q 10 (.q 11 (.q 12 (.a 5 (.q 6 (.q 7 (.a 13 (.q 14 (.q 15 .nil)))))))))))))))) (by kernel_rfl) (by kernel_rfl) ?_;refine aj ?_;refine aC [] (oP) ?_;refine aC [] (rT) ?_;exact av
theorem L9 (b:Bool) (a:E):mo b (.ret a):=by
 intro t ho ht hb;obtain ⟨⟨kk,aa,vv,ss,ks⟩,l⟩:=t;obtain ⟨h1,h2,h3,hl⟩:=dU ht;simp only at h1 h2 h3;subst h1 h2 h3;obtain ⟨x0,rfl,pD⟩:=ve hl;simp only [S.ok] at ho;rw [S.tree,wt] at hb;simp only [ep,eo] at hb;have oP:=oV b (a:=a) ho (by unfold eo;omega) x0 pD;have wD:=im b a ho;have qB:(aJ [x0])[0]?=some (cT x0):=cr rfl;rw [S.txt];generalize a.out b=y0 at *;simp only [cT,T.n,T.kids];refine ai Tryz.func129 Tryz.ntmps129 ?_;refine U [] (oP) ?_;exact ao
theorem N9 (b:Bool) (a:E):mo b (.do_ a):=by
 intro t ho ht hb;obtain ⟨⟨kk,aa,vv,ss,ks⟩,l⟩:=t;obtain ⟨h1,h2,h3,hl⟩:=dU ht;simp only at h1 h2 h3;subst h1 h2 h3;obtain ⟨x0,rfl,pD⟩:=ve hl;simp only [S.ok] at ho;rw [S.tree,wt] at hb;simp only [ep,eo] at hb;have oP:=oV b (a:=a) ho (by unfold eo;omega) x0 pD;have wD:=im b a ho;have qB:(aJ [x0])[0]?=some (cT x0):=cr rfl;rw [S.txt];generalize a.out b=y0 at *;simp only [cT,T.n,T.kids];refine ai Tryz.func129 Tryz.ntmps129 ?_;refine U [] (oP) ?_;exact ao
theorem qL (b:Bool) (es:List S) (C:∀ a∈es,mo b a):tV b es:=by
 intro t ho ht hb;obtain ⟨⟨kk,aa,vv,ss,ks⟩,l⟩:=t;obtain ⟨h1,h2,h3,hl⟩:=dU ht;simp only at h1 h2 h3;subst h1 h2 h3;obtain ⟨hlen,vP⟩:=Hb hl;have me:=Go.Xp.ri (E.out b) (im b) ho;rw [bB,wt] at hb;rw [bB,wt] at me;have hn:=EB es;unfold eI at me |-;unfold eo at hb;simp only [length_append,length_cons,length_nil] at hb me;simp only [cT,T.n,T.kids];refine ai Tryz.func129 Tryz.ntmps129 ?_;refine GW.range (aJ l).length (fun k fr Γ=>∃ y,fr=[.Zy,.v (.bool b),.loc 0 0,.Zy,.Zy,.Zy,.v (sv y),.Zy,.Zy,.Zy,.Zy,.Zy,.Zy,.Zy,.Zy,.Zy,.Zy,.Zy,.Zy,.Zy,.Zy,.Zy,.Zy,.Zy,.Zy,.Zy,.Zy,.Zy,.Zy,.Zy,.Zy,.Zy,.Zy,.Zy,.Zy,.Zy,.Zy,.Zy,.Zy,.Zy,.Zy,.Zy,.Zy,.Zy,.Zy,.Zy,.Zy,.Zy,.Zy,.Zy,.Zy,.Zy,.Zy,.Zy,.Zy,.Zy,.Zy,.Zy,.Zy,.Zy,.Zy,.Zy,.Zy,.Zy,.Zy,.Zy,.Zy,.Zy,.Zy,.Zy,.Zy,.Zy,.Zy,.Zy,.Zy,.Zy,.Zy,.Zy,.Zy,.Zy,.Zy,.Zy,.Zy,.Zy,.Zy,.Zy,.Zy,.Zy,.Zy,.Zy,.Zy,.Zy,.Zy,.Zy,.Zy,.Zy,.Zy,.Zy,.Zy,.Zy,.Zy,.Zy,.Zy,.Zy,.Zy,.Zy,.Zy,.Zy,.Zy,.Zy,.Zy,.Zy,.Zy,.Zy,.Zy,.Zy,.Zy,.Zy,.Zy,.Zy,.Zy,.Zy,.Zy,.Zy,.Zy,.Zy,.Zy,.Zy,.Zy,.Zy,.Zy,.sl 6 (aJ l),.v (ii ((aJ l).length:Int)),.v (ii (k:Nat)),.Zy,.Zy,.Zy,.Zy,.Zy,.Zy,.Zy,.Zy,.Zy,.Zy,.Zy,.Zy]/\Γ=[.box 56 [.v (ii 14),.v (ii aa),.v (ii 0),.v (sv []),ints ks,.sl 6 (aJ l)]]/\S.cx (E.out b) y (es.drop k)=S.cx (E.out b) [123,32] es) ?_ (by rw [aO];omega) ?_ ?_ ?_
 ·exact ⟨_,_,Wk.ax al,_,rfl,rfl,rfl⟩
 ·rintro k _ _ ⟨y,rfl,rfl,_⟩;exact ⟨rfl,rfl,rfl⟩
 ·rintro k _ _ hk ⟨y,rfl,rfl,hy⟩
  have hk:k < es.length:=by rw [aO,hlen] at hk;exact hk
  have vR:k < l.length:=by omega
  have hx:es[k]?=some es[k]:=by simp [hk]
  have jz:l[k]?=some l[k]:=by simp [vR]
  have hr:=cr jz;rw [List.drop_eq_getElem_cons hk,S.cx] at hy;have hm:=mem_of_getElem? hx;have hc:=C _ hm _ (Eu ho hm) (vP k _ _ jz hx) (by have:=EC hm;unfold eo;omega);generalize l[k]=t at *;generalize Zj:es[k].txt (E.out b)=x at *;have kO:=Hp (E.out b) (es.drop (k+1)) (y++x++[32]);rw [hy] at kO;simp only [length_append,length_cons,length_nil] at kO;refine ab ?_;refine U [] (hc) ?_;exact ⟨rfl,rfl,_,_,(Wk.cut (n:=1) (Nat.le_of_ble_eq_true rfl) rfl).trans (Wk.ax al),_,rfl,rfl,hy⟩
 ·rintro _ _ ⟨y,rfl,rfl,hy⟩;rw [List.drop_of_length_le (by rw [aO,hlen];exact Nat.le_refl _),S.cx] at hy;subst hy;exact av
mutual
theorem S8 (b:Bool):∀ s:S,mo b s
 | .set s a=>Ma b s a
 | .put s a c=>L8 b s a c
 | .if1 c p=>L6 b c p (qL b p (rB b p))
 | .if2 c p q=>L7 b c p q (qL b p (rB b p)) (qL b q (rB b q))
 | .while_ c p=>FH b c p (qL b p (rB b p))
 | .ret a=>L9 b a
 | .do_ a=>N9 b a
 | .var s a=>Mb b s a
theorem rB (b:Bool):∀ l:List S,∀ a∈l,mo b a
 | []=>fun a h=>by cases h
 | c::l=>fun a h=>by
  rcases List.mem_cons.1 h with h | h
  ·rw [h];exact S8 b c
  ·exact rB b l a h
end
theorem S7 (b:Bool) (l:List S):tV b l:=qL b l (rB b l)
end Go.Xg
namespace Go.Xg
open Go.RowKit Go.Xw Go.Proofs
open Go.Xp (Tok Nd T bc one levels Ar ca E S er aI wt ep bB eI ea)
open Go.Sp
attribute [local irreducible] GW GL GO YG GC GA aS aW
theorem KR (p:Src) (hp:Ag p) (ls:List (List S)) (hb:CO p ls):GF Tryz.prog 101 [.agg (ar p)] [] (.v (.bool (ls.all fun l=>ea l 1))) []:=by
 refine ai Tryz.func101 Tryz.ntmps101 ?_;refine GW.range (p.fns.map au).length (fun k fr Γ=>fr=[.Zy,.loc 0 0,.Zy,.Zy,.Zy,.Zy,.Zy,.Zy,.sl 3 (p.fns.map au),.v (ii ((p.fns.map au).length:Int)),.v (ii (k:Nat)),.Zy,.Zy,.Zy,.Zy,.Zy,.Zy,.Zy,.Zy,.Zy,.Zy,.Zy,.Zy,.Zy,.Zy,.Zy,.Zy,.Zy,.Zy,.Zy,.Zy,.Zy,.Zy,.Zy,.Zy,.Zy,.Zy,.Zy,.Zy,.Zy,.Zy,.Zy,.Zy,.Zy,.Zy]/\Γ=[.box 34 (ar p)]/\((ls.take k).all fun l=>ea l 1)=true) ?_ (by simpa using by have:=hp.fns.1;omega) ?_ ?_ ?_
 ·exact ⟨_,_,Wk.ax al,rfl,rfl,rfl⟩
 ·rintro k _ _ ⟨rfl,rfl,_⟩;exact ⟨rfl,rfl,rfl⟩
 ·rintro k _ _ hk ⟨rfl,rfl,hf⟩
  have hk:k < p.fns.length:=by simpa using hk
  have eE:k < ls.length:=by rw [hb.len];exact hk
  have hx:p.fns[k]?=some p.fns[k]:=by simp [hk]
  have yd:ls[k]?=some ls[k]:=by simp [eE]
  have hr:=Aa hx;obtain ⟨h0,ho,hw,t,oR,Xl⟩:=hb.at_ k _ _ hx yd;have hs:=CM p (fun n hn=>(hp.nodes.2 n hn).2) _ _ _ oR;rw [Int.toNat_of_nonneg h0] at hs;have DJ:=S7 true ls[k] t ho Xl (by unfold eo;omega);obtain ⟨ts,t2,q,f,h1,h2,h3,h4,h5,h6,h7⟩:=Pm ho hw;have jz:=KS _ ts ah h1;have XE:RS.ok ⟨ts,0,(eI E.txt ls[k]).length,0,0⟩:=⟨Nat.zero_le _,by simp only;omega⟩;have dH:=(Yo f).block 1 _ t2 q XE ah h5
  have jX:(E.out true)=E.txt:=by funext a;rfl
  rw [jX] at DJ;generalize eI E.txt ls[k]=tx at *;generalize tK:ea ls[k] 1=fit at *;generalize p.fns[k]=x at *
  rcases h7 with ⟨h7,h8,rfl⟩ | ⟨h7,rfl⟩
  ·have rT:(q.code != 0)=false:=by simpa using h7
   have jh:((q.i:Int) != ((q.l.map cW).length:Int))=false:=by rw [length_map,h6];simp [h8]
   refine ab ?_;refine U [] (hs) ?_;refine U [] (DJ) ?_;refine U [] (jz) ?_;refine U [2] (dH) ?_;refine GW.draw (.q 0 (.q 1 (.q 2 (.q 3 (.q 4 (.q 5 (.q 6 (.q 7 (.q 8 (.q 9 (.q 10 (.q 11 (.q 12 (.q 13 (.q 14 (.q 15 (.q 16 .nil))))))))))))))))) (by kernel_rfl) (by kernel_rfl) ?_;refine aj ?_;refine ab ?_;exact ⟨rfl,rfl,_,_,(Wk.cut (n:=1) (Nat.le_of_ble_eq_true rfl) rfl).trans (Wk.ax al),rfl,rfl,rI yd hf tK⟩
  ·have rT:(q.code != 0)=true:=by simpa using h7
   have aM:(ls.all fun l=>ea l 1)=false:=tX yd tK;rw [aM];refine ab ?_;refine U [] (hs) ?_;refine U [] (DJ) ?_;refine U [] (jz) ?_;refine U [2] (dH) ?_;refine GW.draw (.q 0 (.q 1 (.q 2 (.q 3 (.q 4 (.q 5 (.q 6 (.q 7 (.q 8 (.q 9 (.q 10 (.q 11 (.q 12 (.q 13 (.q 14 (.q 15 (.q 16 .nil))))))))))))))))) (by kernel_rfl) (by kernel_rfl) ?_;refine aj ?_;exact av
 ·rintro _ _ ⟨rfl,rfl,hf⟩;rw [take_of_length_le (by rw [length_map,hb.len];exact Nat.le_refl _)] at hf;rw [hf];exact av
theorem Jc (p:Src) (hp:Ag p) (h:ni p=some false):GF Tryz.prog 87 [.agg (ar p)] [] (.v (.bool false)) []:=by
 have hs:=zS p hp false h;refine ai Tryz.func87 Tryz.ntmps87 ?_;refine U [] (hs) ?_;exact ao
theorem Jf (p:Src) (hp:Ag p) (h:ni p=some true) (ls:List (List S)) (hb:CO p ls):GF Tryz.prog 87 [.agg (ar p)] [] (.v (.bool (ls.all fun l=>ea l 1))) []:=by
 have hs:=zS p hp true h;have hf:=KR p hp ls hb;generalize (ls.all fun l=>ea l 1)=b at *;refine ai Tryz.func87 Tryz.ntmps87 ?_;refine U [] (hs) ?_;refine U [] (hf) ?_;exact ao
end Go.Xg
namespace Go.Xg
open Go.RowKit Go.Xw Go.Proofs
open Go.Xp (Tok Nd T levels Ar E S er wt bB eI ea)
open Go.Sp
open Go.Im
attribute [local irreducible] GW GL GO YG GC GA aS aW
theorem Qq {p:Src} (hw:ek p<=1048576):Ag p:=by
 obtain ⟨⟨a1,a2⟩,⟨b1,b2⟩,⟨c1,c2⟩,⟨d1,d2⟩⟩:=ja p;exact ⟨⟨by omega,fun s hs=>by have:=a2 s hs;omega⟩,⟨by omega,fun s hs=>by have:=b2 s hs;omega⟩,⟨by omega,fun f hf=>by obtain ⟨e1,e2,e3⟩:=c2 f hf;exact ⟨by omega,by omega,fun s hs=>by have:=e3 s hs;omega⟩⟩,⟨by omega,fun n hn=>by obtain ⟨e1,e2⟩:=d2 n hn;exact ⟨by omega,by omega⟩⟩⟩
theorem Jd (p:Src) (hw:ek p<=1048576):GF Tryz.prog 87 [.agg (ar p)] [] (.v (.bool (fI p))) []:=by
 have ij:=Qq hw;obtain ⟨b,hb⟩:=IX p
 cases b with
 | false=>rw [Vy hb];exact Jc p ij hb
 | true =>
  obtain ⟨l,hl⟩:=Qs hb;obtain ⟨ls,hf⟩:=hl.HU;rw [Vz hl hf];exact Jf p ij hb ls (Jv hl hf hw)
end Go.Xg
