/- What Check comes to, in plain words; the reference says the same. -/
import Derived.Test.YtallnifoeahpiaaPL
import Derived.Test.YtallnifoeahpiaaDEA
import Derived.Test.YtallnifoeahpiaaDRA
import Derived.Laws.RangeAny
import Derived.Laws.RangeString
namespace Go.Proofs.Ytallnifoeahpiaa
open Go Go.Sx
set_option linter.all false

abbrev Cs:=S_api_EdCase
abbrev Sh:=S_api_EdSheet
abbrev Eg:=S_api_EdEdge
abbrev Pt:=S_api_EdPoint


theorem e81 (n lo hi:Int):F81 n lo hi=some (!okN lo hi n):=by
 unfold F81 okN
 congr 1
 rw [Bool.eq_iff_iff]
 cases h:decide (n<lo) with
 | true=>simp at h;simp;omega
 | false=>simp at h;simp;omega
theorem e48 {k:Nat} {l:List Int} {lo hi:Int} (hk:l.length<k) (hl:l.length<2^62):F48 k lo hi l=some (l.any fun n => !okN lo hi n):=by
 unfold F48 F80 F100
 obtain ⟨o,h1,h2⟩:=index_loop (l:=l) (L:=F100L1 l lo hi) (p:=fun n => !okN lo hi n) hl
  (fun n i hi=>by rw [F100L1,if_pos (by simp;omega),idx_nat hi,Option.bind_some,e81,Option.bind_some])
  (fun n=>by rw [F100L1,if_neg (by simp)]) k hk
 rw [h1,Option.bind_some,h2,Option.bind_some,Option.bind_some]
 have:=any_isSome (p:=fun n => !okN lo hi n) (l:=l) (i:=0)
 cases h:fstB (fun n => !okN lo hi n) l 0 with
 | none=>rw [h] at this;rw [←this];rfl
 | some j=>rw [h] at this;rw [←this];simp
theorem e48_1 {k:Nat} {lo hi a:Int} (hk:2≤k):F48 k lo hi [a]=some (!okN lo hi a):=by
 rw [e48 (by simp;omega) (by simp)]
 simp
theorem e48_2 {k:Nat} {lo hi a b:Int} (hk:3≤k):F48 k lo hi [a,b]=some (!(okN lo hi a&&okN lo hi b)):=by
 rw [e48 (by simp;omega) (by simp)]
 simp [Bool.not_and]
theorem e50 {k:Nat} {l:List Sh} {nm:ByteArray} {a b:Int} (hk:l.length<k) (hl:l.length<2^62):F50 k l nm a b=some (l.any fun x=>x.Name==nm):=by
 unfold F50 F82
 obtain ⟨o,h1,h2⟩:=index_loop (l:=l) (L:=F82L1 l nm a b) (p:=fun x=>x.Name==nm) hl
  (fun n i hi=>by rw [F82L1,if_pos (by simp;omega),idx_nat hi,Option.bind_some,F51,Option.bind_some])
  (fun n=>by rw [F82L1,if_neg (by simp)]) k hk
 rw [h1,Option.bind_some,h2,Option.bind_some]
 have:=any_isSome (p:=fun x:Sh=>x.Name==nm) (l:=l) (i:=0)
 cases h:fstB (fun x:Sh=>x.Name==nm) l 0 with
 | none=>rw [h] at this;rw [←this];rfl
 | some j=>rw [h] at this;rw [←this];simp

def okP (p:Pt):Bool:=okN 0 9000 p.A&&okN 0 9000 p.B
theorem e52 {k:Nat} {l:List Pt} (hk3:3≤k) (hk:l.length<k) (hl:l.length<2^62):F52 k l=some (l.any fun p => !okP p):=by
 unfold F52 F83
 obtain ⟨o,h1,h2⟩:=index_loop (l:=l) (L:=F83L1 k l) (p:=fun p => !okP p) hl
  (fun n i hi=>by rw [F83L1,if_pos (by simp;omega),idx_nat hi,Option.bind_some,F53,e48_2 hk3,Option.bind_some,Option.bind_some];rfl)
  (fun n=>by rw [F83L1,if_neg (by simp)]) k hk
 rw [h1,Option.bind_some,h2,Option.bind_some]
 have:=any_isSome (p:=fun p:Pt => !okP p) (l:=l) (i:=0)
 cases h:fstB (fun p:Pt => !okP p) l 0 with
 | none=>rw [h] at this;rw [←this];rfl
 | some j=>rw [h] at this;rw [←this];simp


def shE (before:List Sh) (s:Sh):Int:=if nameB s.Name then (if before.any fun x=>x.Name==s.Name then 5 else if okN 0 20 s.Weight&&okN 0 6 s.Most then 0 else 7) else 6

def egE (n:Int) (x:Eg):Int:=if okN 0 (n-1) x.A&&okN 0 (n-1) x.B then (if x.A==x.B then 2 else if okN 1 4 x.Points.length then (if x.Points.all okP then 0 else 7) else 3) else 4

def shF (c:Cs):List Sh→Nat→Option (Nat×Int)
 | [],_=>none
 | s::l,i=>if shE (c.Sheets.take i) s != 0 then some (i,shE (c.Sheets.take i) s) else shF c l (i+1)
def egF (n:Int):List Eg→Nat→Option (Nat×Int)
 | [],_=>none
 | x::l,i=>if egE n x != 0 then some (i,egE n x) else egF n l (i+1)

def chk (c:Cs):Int×Int×Int :=
 if okN 0 50 c.Tol then
  if okN 1 5 c.Sheets.length&&decide ((c.Edges.length:Int)≤8) then
   match shF c c.Sheets 0 with
   | some (i,e)=>(2,i,e)
   | none=>match egF c.Sheets.length c.Edges 0 with
    | some (i,e)=>(3,i,e)
    | none=>(0,0,0)
  else (1,0,3)
 else (1,0,7)

theorem shF_run (c:Cs):∀(l:List Sh) (i:Nat),runE (β:=Int×Int×Int) (fun i x (_:Unit)=>if shE (c.Sheets.take i) x != 0 then .inl (2,(i:Int),shE (c.Sheets.take i) x) else .inr ()) l i ()=match shF c l i with|some (i,e) => .inl (2,(i:Int),e)|none => .inr ():=by
 intro l
 induction l with
 | nil=>intro i;rfl
 | cons x l ih =>
  intro i
  rw [runE,shF]
  cases shE (c.Sheets.take i) x != 0 with
  | true=>rfl
  | false=>simp only [Bool.false_eq_true,if_false];exact ih (i+1)
theorem egF_run (n:Int):∀(l:List Eg) (i:Nat),runE (β:=Int×Int×Int) (fun i x (_:Unit)=>if egE n x != 0 then .inl (3,(i:Int),egE n x) else .inr ()) l i ()=match egF n l i with|some (i,e) => .inl (3,(i:Int),e)|none => .inr ():=by
 intro l
 induction l with
 | nil=>intro i;rfl
 | cons x l ih =>
  intro i
  rw [runE,egF]
  cases egE n x != 0 with
  | true=>rfl
  | false=>simp only [Bool.false_eq_true,if_false];exact ih (i+1)

theorem e16L1 {k:Nat} {c:Cs} (hk:10≤k) (hn:c.Sheets.length≤5):F16L1 k c k 0=some (match shF c c.Sheets 0 with|some (i,e) => .inl (2,(i:Int),e)|none => .inr ()):=by
 have h:=for_loop (l:=c.Sheets) (L:=F16L1 k c) (σ:=Unit) (fun i _=>(i:Int)) (fun s=>s) (fun i x _=>if shE (c.Sheets.take i) x != 0 then .inl (2,(i:Int),shE (c.Sheets.take i) x) else .inr ()) (fun _ _=>True) (fun _ _ _ _ _ _=>trivial)
  (fun n i s hi _=>by
   have hlen:(c.Sheets.take i).length≤5:=by rw [List.length_take];omega
   rw [F16L1,if_pos (by simp;omega),idx_nat hi,Option.bind_some,F49,Option.bind_some]
   cases hnm:nameB c.Sheets[i]!.Name with
   | false=>simp only [shE,hnm];rfl
   | true =>
    simp only [Bool.not_true,Bool.false_eq_true,if_false]
    rw [sub_take (by omega) (by omega),Option.bind_some,Int.toNat_natCast,e50 (by omega) (by omega),Option.bind_some]
    cases htw:(c.Sheets.take i).any fun x=>x.Name==c.Sheets[i]!.Name with
    | true=>simp only [shE,hnm,htw,if_true];rfl
    | false =>
     simp only [shE,hnm,htw,if_true,Bool.false_eq_true,if_false]
     rw [e48_1 (by omega),Option.bind_some,e48_1 (by omega)]
     cases hw:okN 0 20 c.Sheets[i]!.Weight with
     | false=>rfl
     | true =>
      rw [show optG (!!true) (some (!okN 0 6 c.Sheets[i]!.Most))=some (!okN 0 6 c.Sheets[i]!.Most) from rfl,Option.bind_some]
      cases hm:okN 0 6 c.Sheets[i]!.Most with
      | false=>rfl
      | true=>simp only [Bool.and_self,if_true];rw [w64_id (by omega) (by omega)];rfl)
  (fun n s _=>by rw [F16L1,if_neg (by simp)]) k () trivial (by omega)
 rw [shF_run] at h
 rw [show (0:Int)=((0:Nat):Int) from rfl,h]
 cases shF c c.Sheets 0<;>rfl
theorem e16L2 {k:Nat} {c:Cs} (hk:10≤k) (hn:c.Sheets.length≤5) (hm:c.Edges.length≤8):F16L2 k c k 0=some (match egF c.Sheets.length c.Edges 0 with|some (i,e) => .inl (3,(i:Int),e)|none => .inr ()):=by
 have h:=for_loop (l:=c.Edges) (L:=F16L2 k c) (σ:=Unit) (fun i _=>(i:Int)) (fun s=>s) (fun i x _=>if egE c.Sheets.length x != 0 then .inl (3,(i:Int),egE c.Sheets.length x) else .inr ()) (fun _ _=>True) (fun _ _ _ _ _ _=>trivial)
  (fun n i s hi _=>by
   rw [F16L2,if_pos (by simp;omega),idx_nat hi,Option.bind_some,w64_id (by omega) (by omega),e48_2 (by omega),Option.bind_some]
   cases hab:(okN 0 ((c.Sheets.length:Int)-1) c.Edges[i]!.A&&okN 0 ((c.Sheets.length:Int)-1) c.Edges[i]!.B) with
   | false=>simp only [egE,hab];rfl
   | true =>
    simp only [Bool.not_true,Bool.false_eq_true,if_false]
    cases hq:c.Edges[i]!.A==c.Edges[i]!.B with
    | true=>simp only [egE,hab,hq,if_true];rfl
    | false =>
     simp only [Bool.false_eq_true,if_false]
     rw [e48_1 (by omega),Option.bind_some]
     cases hl:okN 1 4 c.Edges[i]!.Points.length with
     | false=>simp only [egE,hab,hq,hl];rfl
     | true =>
      have hl':=okN_iff.1 hl
      simp only [Bool.not_true,Bool.false_eq_true,if_false]
      rw [e52 (by omega) (by omega) (by omega),Option.bind_some]
      have hall:(c.Edges[i]!.Points.any fun p => !okP p) = !c.Edges[i]!.Points.all okP:=by rw [List.all_eq_not_any_not,Bool.not_not]
      rw [hall]
      cases hp:c.Edges[i]!.Points.all okP with
      | false=>simp only [egE,hab,hq,hl,hp];rfl
      | true=>simp only [egE,hab,hq,hl,hp];rw [w64_id (by omega) (by omega)];rfl)
  (fun n s _=>by rw [F16L2,if_neg (by simp)]) k () trivial (by omega)
 rw [egF_run] at h
 rw [show (0:Int)=((0:Nat):Int) from rfl,h]
 cases egF c.Sheets.length c.Edges 0<;>rfl
theorem e16 {k:Nat} (hk:10≤k) (c:Cs):F16 k c=some (chk c):=by
 unfold F16 chk
 rw [e48_1 (by omega),Option.bind_some]
 cases okN 0 50 c.Tol with
 | false=>rfl
 | true =>
  simp only [Bool.not_true,Bool.false_eq_true,if_false,if_true]
  rw [e48_1 (by omega),Option.bind_some]
  cases hs:okN 1 5 c.Sheets.length with
  | false=>rfl
  | true =>
   have hs':=okN_iff.1 hs
   by_cases he:(c.Edges.length:Int)≤8
   ·rw [if_neg (by simp;omega),if_pos (by simp;omega),e16L1 hk (by omega),Option.bind_some]
    cases shF c c.Sheets 0 with
    | some p=>rfl
    | none =>
     simp only [outK]
     rw [e16L2 hk (by omega) (by omega),Option.bind_some]
     cases egF c.Sheets.length c.Edges 0<;>rfl
   ·rw [if_pos (by simp;omega),if_neg (by simp;omega)]
end Go.Proofs.Ytallnifoeahpiaa
