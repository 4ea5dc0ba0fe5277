/- Range; changes that agree are a lattice. -/
import Derived.Test.YtallnifoeahpiaaPW
namespace Go.Proofs.Ytallnifoeahpiaa
open Go Go.Sx
set_option linter.all false


def Ag (c:Cs) (x:List Int):Prop:=x.length=c.Sheets.length∧Fe c 0 x
theorem get_end {l:List Int} {i:Nat} (h:l.length≤i):l[i]! = 0:=by rw [getElem!_def,List.getElem?_eq_none h];rfl
theorem take_get {α:Type} [Inhabited α] {l:List α} {n i:Nat} (h:i<n) (hl:n≤l.length):(l.take n)[i]! = l[i]! := by
 rw [getElem!_pos (l.take n) i (by simp;omega),getElem!_pos l i (by omega),List.getElem_take]
theorem chOf_len {n:Nat} {y:Int→Int}:(chOf n y).length=n:=by simp [chOf]

def RangeOk (c:Cs) (i:Int) (r:S_api_Span×Int):Prop :=
 ((chk c).2.2≠0∧r=(⟨0,0⟩,(chk c).2.2)) ∨
 ((chk c).2.2=0∧¬(0≤i∧i<c.Sheets.length)∧r=(⟨0,0⟩,4)) ∨
 ((chk c).2.2=0∧(0≤i∧i<c.Sheets.length)∧(∀x,¬Ag c x)∧r=(⟨0,0⟩,9)) ∨
 ((chk c).2.2=0∧(0≤i∧i<c.Sheets.length)∧r.2=0∧(∃x,Ag c x∧x[i.toNat]! = r.1.Lo)∧(∃x,Ag c x∧x[i.toNat]! = r.1.Hi)∧∀x,Ag c x→r.1.Lo≤x[i.toNat]! ∧ x[i.toNat]! ≤ r.1.Hi)
theorem RangeOk.eq {c:Cs} {i:Int} {r q:S_api_Span×Int} (h:RangeOk c i r) (g:RangeOk c i q):r=q:=by
 rcases h with ⟨h1,h2⟩|⟨h1,h2,h3⟩|⟨h1,h2,h3,h4⟩|⟨h1,h2,h3,⟨x,h4,h5⟩,⟨y,h6,h7⟩,h8⟩<;>rcases g with ⟨g1,g2⟩|⟨g1,g2,g3⟩|⟨g1,g2,g3,g4⟩|⟨g1,g2,g3,⟨a,g4,g5⟩,⟨b,g6,g7⟩,g8⟩<;>first|exact absurd h1 g1|exact absurd g1 h1|exact absurd h2 g2|exact absurd g2 h2|exact absurd h4 (g3 _)|exact absurd g4 (h3 _)|skip
 ·rw [h2,g2]
 ·rw [h3,g3]
 ·rw [h4,g4]
 ·have a1:=g8 x h4
  have a2:=g8 y h6
  have a3:=h8 a g4
  have a4:=h8 b g6
  obtain ⟨⟨rl,rh⟩,re⟩:=r
  obtain ⟨⟨ql,qh⟩,qe⟩:=q
  simp only at *
  have e1:rl=ql:=by omega
  have e2:rh=qh:=by omega
  rw [e1,e2,h3,g3]
theorem nbeq_pos {n:Nat} (h:n≠0):(!(Nat.beq n 0))=true:=by
 cases n with
 | zero=>exact absurd rfl h
 | succ n=>rfl
theorem e25 {k:Nat} (hk:40≤k) (c:Cs) (i:Int) (hl:c.Sheets.length≤9223372036854775807):∃r,F25 k c i=some r∧RangeOk c i r:=by
 unfold F25
 by_cases h:(chk c).2.2=0
 ·have hv:=chk_val (chk_err h)
  have hs:=hv.sheets
  rw [e57 (by omega) h,Option.bind_some]
  simp only [outK]
  rw [if_neg (by simp),w64_id (by omega) (by omega),e48_1 (by omega),Option.bind_some]
  cases hok:okN 0 ((c.Sheets.length:Int)-1) i with
  | false =>
   have hn:¬(0≤i∧i<c.Sheets.length):=fun hh=>by rw [okN_iff.2 ⟨hh.1,by omega⟩] at hok;simp at hok
   exact ⟨_,rfl,.inr (.inl ⟨h,hn,rfl⟩)⟩
  | true =>
   have hr:=okN_iff.1 hok
   simp only [Bool.not_true,Bool.false_eq_true,if_false]
   rcases tight (k:=k) (by omega) hv 0 c.Sheets.length (Nat.le_refl _) c.Tol [] with ⟨d,h1,h2,h3,h4,h5⟩|⟨rl,b,h1,h2,_,h3⟩
   ·rw [h1,Option.bind_some]
    simp only
    rw [if_neg (by simp)]
    have hi':(i.toNat:Int)=i:=by omega
    rcases tight (k:=k) (by omega) hv 0 i.toNat (by omega) c.Tol [] with ⟨e,g1,g2,g3,g4,g5⟩|⟨rl,b,g1,g2,_,g3⟩
    ·rw [hi'] at g1
     rw [g1,Option.bind_some]
     simp only
     have b1:=h5 _ g4 (by exact chOf_end) i.toNat (by omega)
     have b2:=g5 _ h4 (by exact chOf_end) c.Sheets.length (Nat.le_refl _)
     have hup:∀x,Ag c x→x[i.toNat]! ≤ d[i.toNat]! := fun x hx=>by
      have:=h5 x hx.2 (get_end (by rw [hx.1];exact Nat.le_refl _)) i.toNat (by omega)
      rw [get_end (l:=x) (i:=c.Sheets.length) (by rw [hx.1];exact Nat.le_refl _)] at this
      omega
     have hdn:∀x,Ag c x → -e[c.Sheets.length]! ≤ x[i.toNat]! := fun x hx=>by
      have:=g5 x hx.2 (get_end (by rw [hx.1];exact Nat.le_refl _)) c.Sheets.length (Nat.le_refl _)
      rw [get_end (l:=x) (i:=c.Sheets.length) (by rw [hx.1];exact Nat.le_refl _)] at this
      omega
     have a1:Ag c (chOf c.Sheets.length (pf d)):=⟨chOf_len,h4⟩
     have a2:Ag c (chOf c.Sheets.length (pf e)):=⟨chOf_len,g4⟩
     have v1:(chOf c.Sheets.length (pf d))[i.toNat]! = d[i.toNat]! := by
      rw [chOf_get (by omega)]
      simp only [pf,Int.toNat_natCast]
      omega
     have v2:(chOf c.Sheets.length (pf e))[i.toNat]! = -e[c.Sheets.length]! := by
      rw [chOf_get (by omega)]
      simp only [pf,Int.toNat_natCast]
      omega
     have m1:=a1.2.box i.toNat (by omega)
     have m2:=a2.2.box i.toNat (by omega)
     have mo:=most_ok hv (i:=i.toNat) (by omega)
     rw [idx_nat (by omega),Option.bind_some,idx_bang (by omega) (by omega),Option.bind_some,w64_id (by omega) (by omega)]
     refine ⟨_,rfl,.inr (.inr (.inr ⟨h,by omega,rfl,⟨_,a2,?_⟩,⟨_,a1,v1⟩,fun x hx=>⟨?_,hup x hx⟩⟩))⟩
     ·rw [v2];simp only;omega
     ·have:=hdn x hx;simp only;omega
    ·exact absurd ⟨h4,chOf_end⟩ (g3 _)
   ·rw [h1,Option.bind_some]
    simp only
    have hne:rl.length≠0:=by have:=h2.pos;omega
    rw [if_pos (nbeq_pos hne)]
    exact ⟨_,rfl,.inr (.inr (.inl ⟨h,by omega,fun x hx=>h3 x ⟨hx.2,get_end (by rw [hx.1];exact Nat.le_refl _)⟩,rfl⟩))⟩
 ·rw [e57_err (by omega) h,Option.bind_some]
  simp only [outK]
  rw [if_pos (by simpa using h)]
  exact ⟨_,rfl,.inl ⟨h,rfl⟩⟩


theorem pot_min {ls:List Sp} {x y:Int→Int} (hx:Pot ls x) (hy:Pot ls y) (a:Int):Pot ls (fun v=>min (x v) (y v+a)):=fun s hs=>by
 have h1:=hx s hs
 have h2:=hy s hs
 simp only
 omega
theorem pot_max {ls:List Sp} {x y:Int→Int} (hx:Pot ls x) (hy:Pot ls y) (a:Int):Pot ls (fun v=>max (x v) (y v-a)):=fun s hs=>by
 have h1:=hx s hs
 have h2:=hy s hs
 simp only
 omega

structure P5 (c:Cs) (x:List Int):Prop where
 len:x.length=5
 fe:Fe c 0 x
 end_:∀i,c.Sheets.length≤i→x[i]! = 0

def mk5 (n:Nat) (f:Nat→Int):List Int:=(List.range 5).map fun i=>if i<n then f i else 0
theorem mk5_get {n:Nat} {f:Nat→Int} {i:Nat} (h:i<n) (h5:n≤5):(mk5 n f)[i]! = f i:=by
 unfold mk5
 rw [getElem!_pos _ i (by simp;omega)]
 simp [h]
theorem mk5_end {n:Nat} {f:Nat→Int} {i:Nat} (h:n≤i):(mk5 n f)[i]! = 0:=by
 unfold mk5
 by_cases hi:i<5
 ·rw [getElem!_pos _ i (by simp;omega)];simp;omega
 ·exact get_end (by simp;omega)
theorem mk5_len {n:Nat} {f:Nat→Int}:(mk5 n f).length=5:=by simp [mk5]
theorem fe_congr {c:Cs} (hv:Val c) {w:Int} {x y:List Int} (h:∀i,i<c.Sheets.length→x[i]! = y[i]!) (hx:Fe c w x):Fe c w y:=by
 refine ⟨fun i hi=>by rw [←h i hi];exact hx.box i hi,fun i hi hk=>?_⟩
 have he:=ends hv hi
 rw [←h _ (by omega),←h _ (by omega)]
 exact hx.eg i hi hk

theorem p5_pot {c:Cs} (hv:Val c) {y:Int→Int} (hy:Pot (lsA c 0) y) (h0:y c.Sheets.length=0):P5 c (mk5 c.Sheets.length fun i=>y i):=by
 have hs:=hv.sheets
 refine ⟨mk5_len,fe_congr hv (fun i hi=>?_) (chOf_fe hv hy),fun i hi=>mk5_end hi⟩
 rw [chOf_get hi,mk5_get hi hs.2,h0];omega
theorem P5.pot {c:Cs} (hv:Val c) {x:List Int} (h:P5 c x):Pot (lsA c 0) (pf x):=(fe_pot hv (h.end_ _ (Nat.le_refl _))).1 h.fe

def lowr (c:Cs) (x y:List Int) (a:Int):List Int:=mk5 c.Sheets.length fun i=>min x[i]! (y[i]! + a)
def uppr (c:Cs) (x y:List Int) (a:Int):List Int:=mk5 c.Sheets.length fun i=>max x[i]! (y[i]! - a)
theorem P5.low {c:Cs} (hv:Val c) {x y:List Int} (hx:P5 c x) (hy:P5 c y) {a:Int} (ha:0≤a):P5 c (lowr c x y a):=by
 have h:=p5_pot hv (pot_min (hx.pot hv) (hy.pot hv) a) (by simp only [pf,Int.toNat_natCast];rw [hx.end_ _ (Nat.le_refl _),hy.end_ _ (Nat.le_refl _)];omega)
 exact h
theorem P5.upp {c:Cs} (hv:Val c) {x y:List Int} (hx:P5 c x) (hy:P5 c y) {a:Int} (ha:0≤a):P5 c (uppr c x y a):=by
 have h:=p5_pot hv (pot_max (hx.pot hv) (hy.pot hv) a) (by simp only [pf,Int.toNat_natCast];rw [hx.end_ _ (Nat.le_refl _),hy.end_ _ (Nat.le_refl _)];omega)
 exact h
theorem low_get {c:Cs} (h5:c.Sheets.length≤5) {x y:List Int} {a:Int} {i:Nat} (h:i<c.Sheets.length):(lowr c x y a)[i]! = min x[i]! (y[i]! + a):=mk5_get h h5
theorem upp_get {c:Cs} (h5:c.Sheets.length≤5) {x y:List Int} {a:Int} {i:Nat} (h:i<c.Sheets.length):(uppr c x y a)[i]! = max x[i]! (y[i]! - a):=mk5_get h h5
theorem sumN_add {f g:Nat→Int}:∀{n:Nat},sumN n (fun i=>f i+g i)=sumN n f+sumN n g:=by
 intro n
 induction n with
 | zero=>rfl
 | succ n ih=>rw [sumN,sumN,sumN,ih];omega
theorem cost_le {c:Cs} (hv:Val c) {x y z u:List Int} (h:∀i,i<c.Sheets.length→absI z[i]! + absI u[i]! ≤ absI x[i]! + absI y[i]!):cost c z+cost c u≤cost c x+cost c y:=by
 unfold cost
 rw [←sumN_add,←sumN_add]
 refine sumN_le fun i hi=>?_
 rw [←Int.mul_add,←Int.mul_add]
 exact Int.mul_le_mul_of_nonneg_left (h i hi) (most_ok hv hi).2.2.1
theorem cost_congr {c:Cs} {x y:List Int} (h:∀i,i<c.Sheets.length→x[i]! = y[i]!):cost c x=cost c y:=sumN_congr fun i hi=>by rw [h i hi]

theorem low_upp {c:Cs} (hv:Val c) {x y:List Int} {a:Int} (h0:0≤a) (ha:∀i,i<c.Sheets.length→x[i]! ≤ y[i]! + (a+1)):cost c (lowr c x y a)+cost c (uppr c y x a)≤cost c x+cost c y:=by
 have hs:=hv.sheets
 refine cost_le hv fun i hi=>?_
 rw [low_get hs.2 hi,upp_get hs.2 hi]
 have:=ha i hi
 unfold absI
 omega

theorem low_upp0 {c:Cs} (hv:Val c) {x y:List Int}:cost c (lowr c x y 0)+cost c (uppr c x y 0)≤cost c x+cost c y:=by
 have hs:=hv.sheets
 refine cost_le hv fun i hi=>?_
 rw [low_get hs.2 hi,upp_get hs.2 hi]
 unfold absI
 omega
end Go.Proofs.Ytallnifoeahpiaa
