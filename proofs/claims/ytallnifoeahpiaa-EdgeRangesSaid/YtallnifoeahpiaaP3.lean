/- The reference's Range and Least. -/
import Derived.Test.YtallnifoeahpiaaP2
namespace Go.Proofs.Ytallnifoeahpiaa
open Go Go.Sx
set_option linter.all false

theorem ext_self {c:Cs} (hv:Val c) {begin:List Int} (h:FeP c begin) (hl:begin.length=c.Sheets.length):Ext c begin begin:=by
 refine ⟨⟨hl,fun i hi=>h.box i (by omega),fun i hi _=>?_⟩,List.take_of_length_le (Nat.le_refl _)⟩
 have he:=ends hv hi
 have:=h.eg _ (mem_get hi) (by omega) (by omega)
 exact okN_iff.1 this
theorem low_eq {c:Cs} {x y:List Int} (hx:Low c x) (hy:Ag c y):Low c y→x=y:=fun hy'=>by
 apply List.ext_getElem (by rw [hx.1.1,hy.1])
 intro i h7 h8
 have a1:=hx.2 y hy
 have a2:=hy'.2 x hx.1
 have b1:=a1.2 (by omega) i (by rw [←hx.1.1];exact h7)
 have b2:=a2.2 (by omega) i (by rw [←hx.1.1];exact h7)
 rw [getElem!_pos x i h7,getElem!_pos y i h8] at b1 b2
 omega
theorem e65v1 {c:Cs} (hv:Val c) (j:Nat) (hj:j<c.Sheets.length):∀(d k:Nat) (begin:List Int),begin.length+d=c.Sheets.length→40+d<k→FeP c begin→∃f,F65v1 k c begin (j:Int)=some f∧FoundOk c j (Ext c begin) f.Is f.Best f.Range.Lo f.Range.Hi:=by
 have hs:=hv.sheets
 intro d
 induction d with
 | zero =>
  intro k begin hl hk hb
  obtain ⟨k,rfl⟩:∃q,k=q+1:=⟨k-1,by omega⟩
  have hself:=ext_self hv hb (by omega)
  rw [F65v1]
  unfold B65v1
  rw [if_pos (by simp;omega),idx_nat (by omega),Option.bind_some,Option.bind_some]
  refine ⟨_,rfl,fun _=>⟨hself,fun x hx=>?_,⟨begin,hself,rfl⟩,⟨begin,hself,rfl⟩,fun x hx=>?_⟩,fun e=>by simp at e,fun x _ hx=>⟨rfl,(fe_of_ext hv (by omega) hx).symm⟩⟩
  ·rw [fe_of_ext hv (by omega) hx];exact Int.le_refl _
  ·rw [fe_of_ext hv (by omega) hx];exact ⟨Int.le_refl _,Int.le_refl _⟩
 | succ d ih =>
  intro k begin hl hk hb
  obtain ⟨k,rfl⟩:∃q,k=q+1:=⟨k-1,by omega⟩
  have hlt:begin.length<c.Sheets.length:=by omega
  have hmo:=most_ok hv hlt
  rw [F65v1]
  unfold B65v1
  rw [if_neg (by simp;omega),idx_nat hlt,Option.bind_some,w64_id (n:=0-c.Sheets[begin.length]!.Most) (by omega) (by omega)]
  obtain ⟨is,best,l,h,h1,h2⟩:=all_loop (k:=k+1) (by omega) hv hlt hb j (R:=fun l=>F65v1 k c l (j:Int))
   (fun v a1 a2 a3=>ih k (begin++[v]) (by simp;omega) (by omega) (feP_snoc hv hlt hb a1 a2 a3))
   (L:=F65v1L1 (k+1) (F65v1 k) c begin j c.Sheets[begin.length]!) (fun n8 c7=>by rw [F65v1L1])
   (c.Sheets[begin.length]!.Most+1+c.Sheets[begin.length]!.Most).toNat (k+1) (0-c.Sheets[begin.length]!.Most) false [] 0 0 (by omega) (by omega) (by omega)
   (FoundOk.empty fun x hx=>by have:=hx.1.1.2.box _ hlt;omega)
  rw [h1,Option.bind_some]
  exact ⟨_,rfl,h2⟩
theorem e65 {k:Nat} (hk:100≤k) {c:Cs} (hv:Val c) (j:Nat) (hj:j<c.Sheets.length):∃f,F65 k c [] (j:Int)=some f∧FoundOk c j (Ag c) f.Is f.Best f.Range.Lo f.Range.Hi:=by
 have hs:=hv.sheets
 have hb:FeP c []:=⟨by simp,fun i hi=>by simp at hi,fun e he ha=>by have:=hv.eg e he;simp at ha;omega⟩
 have hlt:([]:List Int).length<c.Sheets.length:=by simp;omega
 have hmo:=most_ok hv hlt
 unfold F65
 rw [if_neg (by simp;omega),show (0:Int)=((([]:List Int).length:Nat):Int) from rfl,idx_nat hlt,Option.bind_some]
 rw [show ((([]:List Int).length:Nat):Int)=0 from rfl,w64_id (n:=0-c.Sheets[([]:List Int).length]!.Most) (by omega) (by omega)]
 obtain ⟨is,best,l,h,h1,h2⟩:=all_loop (k:=k) (by omega) hv hlt hb j (R:=fun l=>F65v1 k c l (j:Int))
  (fun v a1 a2 a3=>e65v1 hv j hj (c.Sheets.length-1) k ([]++[v]) (by simp;omega) (by omega) (feP_snoc hv hlt hb a1 a2 a3))
  (L:=F65L1 k c j c.Sheets[([]:List Int).length]!) (fun n8 c7=>by rw [F65L1])
  (c.Sheets[([]:List Int).length]!.Most+1+c.Sheets[([]:List Int).length]!.Most).toNat k (0-c.Sheets[([]:List Int).length]!.Most) false [] 0 0 (by omega) (by omega) (by omega)
  (FoundOk.empty fun x hx=>by have:=hx.1.1.2.box _ hlt;omega)
 rw [h1,Option.bind_some]
 exact ⟨_,rfl,h2.congr fun x=>⟨fun hx=>hx.1,fun hx=>⟨hx,rfl⟩⟩⟩
theorem e26 {k:Nat} (hk:100≤k) (c:Cs) (i:Int) (hl:c.Sheets.length≤9223372036854775807):∃r,F26 k c i=some r∧RangeOk c i r:=by
 unfold F26
 rw [e17 (by omega),Option.bind_some,w64_id (by omega) (by omega),e54]
 by_cases h:(chk c).2.2=0
 ·have hv:=chk_val (chk_err h)
  have hs:=hv.sheets
  have hb:((chk c).2.2==0)=true:=by simpa using h
  rw [hb,optG_true,Option.bind_some,cond_true]
  cases hok:okN 0 ((c.Sheets.length:Int)-1) i with
  | false =>
   have hn:¬(0≤i∧i<c.Sheets.length):=fun hh=>by rw [okN_iff.2 ⟨hh.1,by omega⟩] at hok;simp at hok
   exact ⟨_,rfl,.inr (.inl ⟨h,hn,rfl⟩)⟩
  | true =>
   have hr:=okN_iff.1 hok
   simp only [Bool.not_true,Bool.false_eq_true,if_false,Option.bind_some,outK]
   rw [if_neg (by simpa using h)]
   obtain ⟨f,h1,h2⟩:=e65 hk hv i.toNat (by omega)
   rw [show ((i.toNat:Nat):Int)=i by omega] at h1
   rw [h1,Option.bind_some]
   cases hf:f.Is with
   | false =>
    rw [if_pos (by rfl)]
    exact ⟨_,rfl,.inr (.inr (.inl ⟨h,by omega,h2.no hf,rfl⟩))⟩
   | true =>
    rw [if_neg (by simp)]
    have h3:=h2.yes hf
    exact ⟨_,rfl,.inr (.inr (.inr ⟨h,by omega,rfl,h3.2.2.1,h3.2.2.2.1,h3.2.2.2.2⟩))⟩
 ·have hb:((chk c).2.2==0)=false:=by simpa using h
  rw [hb,optG_false,Option.bind_some]
  simp only [cond_false,Bool.false_eq_true,if_false,Option.bind_some,outK]
  rw [if_pos (by simpa using h)]
  exact ⟨_,rfl,.inl ⟨h,rfl⟩⟩

theorem low_some {c:Cs} (h:(chk c).2.2=0) (hx:∃x,Ag c x):∃x,Low c x:=by
 obtain ⟨r,_,hr⟩:=e27 (k:=100) (Nat.le_refl _) c
 rcases hr with ⟨h1,_⟩|⟨_,h1,_⟩|⟨_,_,_,h1,h2⟩
 ·exact absurd h h1
 ·obtain ⟨x,hx⟩:=hx;exact absurd hx (h1 x)
 ·exact ⟨r.1,h1,h2⟩
theorem e28 {k:Nat} (hk:100≤k) (c:Cs):∃r,F28 k c=some r∧LeastOk c r:=by
 unfold F28
 rw [e17 (by omega),Option.bind_some]
 by_cases h:(chk c).2.2=0
 ·have hv:=chk_val (chk_err h)
  have hs:=hv.sheets
  rw [if_neg (by simpa using h)]
  obtain ⟨f,h1,h2⟩:=e65 hk hv 0 (by omega)
  rw [show (0:Int)=((0:Nat):Int) from rfl,h1,Option.bind_some]
  cases hf:f.Is with
  | false =>
   rw [if_pos (by rfl)]
   exact ⟨_,rfl,.inr (.inl ⟨h,h2.no hf,rfl⟩)⟩
  | true =>
   rw [if_neg (by simp)]
   have h3:=h2.yes hf
   obtain ⟨x,hx⟩:=low_some h ⟨_,h3.1⟩
   have h4:=(h2.low x hx hx.1).2
   have hn:near c f.Best:=fun i hi=>by
    have h1:=h3.1.2.box i hi
    have h2:=most_ok hv hi
    omega
   rw [e39 (by omega) hv h3.1.1 hn,Option.bind_some]
   refine ⟨_,rfl,.inr (.inr ⟨h,rfl,rfl,?_⟩)⟩
   simp only
   rw [h4]
   exact hx
 ·rw [if_pos (by simpa using h)]
  exact ⟨_,rfl,.inl ⟨h,rfl⟩⟩
end Go.Proofs.Ytallnifoeahpiaa
