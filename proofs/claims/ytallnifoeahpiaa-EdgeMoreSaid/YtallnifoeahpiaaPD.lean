/- What Check comes to, in plain words; the reference says the same. -/
import Derived.Test.YtallnifoeahpiaaPL
import Derived.Test.YtallnifoeahpiaaDEA
import Derived.Test.YtallnifoeahpiaaDRA
import Derived.Laws.RangeAny
import Derived.Laws.RangeString
namespace Go.Proofs.Ytallnifoeahpiaa
open Go Go.Sx
set_option linter.all false

abbrev Cs:=S_api_EdCase
abbrev Sh:=S_api_EdSheet
abbrev Eg:=S_api_EdEdge
abbrev Pt:=S_api_EdPoint


theorem e81 (n lo hi:Int):F81 n lo hi=some (!okN lo hi n):=by
 unfold F81 okN
 congr 1
 rw [Bool.eq_iff_iff]
 cases h:decide (n<lo) with
 | true=>simp at h;simp;omega
 | false=>simp at h;simp;omega
theorem e48 {k:Nat} {l:List Int} {lo hi:Int} (hk:l.length<k) (hl:l.length<2^62):F48 k lo hi l=some (l.any fun n => !okN lo hi n):=by
 unfold F48 F80 F100
 obtain ⟨o,h1,h2⟩:=index_loop (l:=l) (L:=F100L1 l lo hi) (p:=fun n => !okN lo hi n) hl
  (fun n i hi=>by rw [F100L1,if_pos (by simp;omega),idx_nat hi,Option.bind_some,e81,Option.bind_some])
  (fun n=>by rw [F100L1,if_neg (by simp)]) k hk
 rw [h1,Option.bind_some,h2,Option.bind_some,Option.bind_some]
 have:=any_isSome (p:=fun n => !okN lo hi n) (l:=l) (i:=0)
 cases h:fstB (fun n => !okN lo hi n) l 0 with
 | none=>rw [h] at this;rw [←this];rfl
 | some j=>rw [h] at this;rw [←this];simp
theorem e48_1 {k:Nat} {lo hi a:Int} (hk:2≤k):F48 k lo hi [a]=some (!okN lo hi a):=by
 rw [e48 (by simp;omega) (by simp)]
 simp
theorem e48_2 {k:Nat} {lo hi a b:Int} (hk:3≤k):F48 k lo hi [a,b]=some (!(okN lo hi a&&okN lo hi b)):=by
 rw [e48 (by simp;omega) (by simp)]
 simp [Bool.not_and]
theorem e50 {k:Nat} {l:List Sh} {nm:ByteArray} {a b:Int} (hk:l.length<k) (hl:l.length<2^62):F50 k l nm a b=some (l.any fun x=>x.Name==nm):=by
 unfold F50 F82
 obtain ⟨o,h1,h2⟩:=index_loop (l:=l) (L:=F82L1 l nm a b) (p:=fun x=>x.Name==nm) hl
  (fun n i hi=>by rw [F82L1,if_pos (by simp;omega),idx_nat hi,Option.bind_some,F51,Option.bind_some])
  (fun n=>by rw [F82L1,if_neg (by simp)]) k hk
 rw [h1,Option.bind_some,h2,Option.bind_some]
 have:=any_isSome (p:=fun x:Sh=>x.Name==nm) (l:=l) (i:=0)
 cases h:fstB (fun x:Sh=>x.Name==nm) l 0 with
 | none=>rw [h] at this;rw [←this];rfl
 | some j=>rw [h] at this;rw [←this];simp

def okP (p:Pt):Bool:=okN 0 9000 p.A&&okN 0 9000 p.B
theorem e52 {k:Nat} {l:List Pt} (hk3:3≤k) (hk:l.length<k) (hl:l.length<2^62):F52 k l=some (l.any fun p => !okP p):=by
 unfold F52 F83
 obtain ⟨o,h1,h2⟩:=index_loop (l:=l) (L:=F83L1 k l) (p:=fun p => !okP p) hl
  (fun n i hi=>by rw [F83L1,if_pos (by simp;omega),idx_nat hi,Option.bind_some,F53,e48_2 hk3,Option.bind_some,Option.bind_some];rfl)
  (fun n=>by rw [F83L1,if_neg (by simp)]) k hk
 rw [h1,Option.bind_some,h2,Option.bind_some]
 have:=any_isSome (p:=fun p:Pt => !okP p) (l:=l) (i:=0)
 cases h:fstB (fun p:Pt => !okP p) l 0 with
 | none=>rw [h] at this;rw [←this];rfl
 | some j=>rw [h] at this;rw [←this];simp


def shE (before:List Sh) (s:Sh):Int:=if nameB s.Name then (if before.any fun x=>x.Name==s.Name then 5 else if okN 0 20 s.Weight&&okN 0 6 s.Most then 0 else 7) else 6

def egE (n:Int) (x:Eg):Int:=if okN 0 (n-1) x.A&&okN 0 (n-1) x.B then (if x.A==x.B then 2 else if okN 1 4 x.Points.length then (if x.Points.all okP then 0 else 7) else 3) else 4

def shF (c:Cs):List Sh→Nat→Option (Nat×Int)
 | [],_=>none
 | s::l,i=>if shE (c.Sheets.take i) s != 0 then some (i,shE (c.Sheets.take i) s) else shF c l (i+1)
def egF (n:Int):List Eg→Nat→Option (Nat×Int)
 | [],_=>none
 | x::l,i=>if egE n x != 0 then some (i,egE n x) else egF n l (i+1)

def chk (c:Cs):Int×Int×Int :=
 if okN 0 50 c.Tol then
  if okN 1 5 c.Sheets.length&&decide ((c.Edges.length:Int)≤8) then
   match shF c c.Sheets 0 with
   | some (i,e)=>(2,i,e)
   | none=>match egF c.Sheets.length c.Edges 0 with
    | some (i,e)=>(3,i,e)
    | none=>(0,0,0)
  else (1,0,3)
 else (1,0,7)

theorem shF_run (c:Cs):∀(l:List Sh) (i:Nat),runE (β:=Int×Int×Int) (fun i x (_:Unit)=>if shE (c.Sheets.take i) x != 0 then .inl (2,(i:Int),shE (c.Sheets.take i) x) else .inr ()) l i ()=match shF c l i with|some (i,e) => .inl (2,(i:Int),e)|none => .inr ():=by
 intro l
 induction l with
 | nil=>intro i;rfl
 | cons x l ih =>
  intro i
  rw [runE,shF]
  cases shE (c.Sheets.take i) x != 0 with
  | true=>rfl
  | false=>simp only [Bool.false_eq_true,if_false];exact ih (i+1)
theorem egF_run (n:Int):∀(l:List Eg) (i:Nat),runE (β:=Int×Int×Int) (fun i x (_:Unit)=>if egE n x != 0 then .inl (3,(i:Int),egE n x) else .inr ()) l i ()=match egF n l i with|some (i,e) => .inl (3,(i:Int),e)|none => .inr ():=by
 intro l
 induction l with
 | nil=>intro i;rfl
 | cons x l ih =>
  intro i
  rw [runE,egF]
  cases egE n x != 0 with
  | true=>rfl
  | false=>simp only [Bool.false_eq_true,if_false];exact ih (i+1)

theorem e16L1 {k:Nat} {c:Cs} (hk:10≤k) (hn:c.Sheets.length≤5):F16L1 k c k 0=some (match shF c c.Sheets 0 with|some (i,e) => .inl (2,(i:Int),e)|none => .inr ()):=by
 have h:=for_loop (l:=c.Sheets) (L:=F16L1 k c) (σ:=Unit) (fun i _=>(i:Int)) (fun s=>s) (fun i x _=>if shE (c.Sheets.take i) x != 0 then .inl (2,(i:Int),shE (c.Sheets.take i) x) else .inr ()) (fun _ _=>True) (fun _ _ _ _ _ _=>trivial)
  (fun n i s hi _=>by
   have hlen:(c.Sheets.take i).length≤5:=by rw [List.length_take];omega
   rw [F16L1,if_pos (by simp;omega),idx_nat hi,Option.bind_some,F49,Option.bind_some]
   cases hnm:nameB c.Sheets[i]!.Name with
   | false=>simp only [shE,hnm];rfl
   | true =>
    simp only [Bool.not_true,Bool.false_eq_true,if_false]
    rw [sub_take (by omega) (by omega),Option.bind_some,Int.toNat_natCast,e50 (by omega) (by omega),Option.bind_some]
    cases htw:(c.Sheets.take i).any fun x=>x.Name==c.Sheets[i]!.Name with
    | true=>simp only [shE,hnm,htw,if_true];rfl
    | false =>
     simp only [shE,hnm,htw,if_true,Bool.false_eq_true,if_false]
     rw [e48_1 (by omega),Option.bind_some,e48_1 (by omega)]
     cases hw:okN 0 20 c.Sheets[i]!.Weight with
     | false=>rfl
     | true =>
      rw [show optG (!!true) (some (!okN 0 6 c.Sheets[i]!.Most))=some (!okN 0 6 c.Sheets[i]!.Most) from rfl,Option.bind_some]
      cases hm:okN 0 6 c.Sheets[i]!.Most with
      | false=>rfl
      | true=>simp only [Bool.and_self,if_true];rw [w64_id (by omega) (by omega)];rfl)
  (fun n s _=>by rw [F16L1,if_neg (by simp)]) k () trivial (by omega)
 rw [shF_run] at h
 rw [show (0:Int)=((0:Nat):Int) from rfl,h]
 cases shF c c.Sheets 0<;>rfl
theorem e16L2 {k:Nat} {c:Cs} (hk:10≤k) (hn:c.Sheets.length≤5) (hm:c.Edges.length≤8):F16L2 k c k 0=some (match egF c.Sheets.length c.Edges 0 with|some (i,e) => .inl (3,(i:Int),e)|none => .inr ()):=by
 have h:=for_loop (l:=c.Edges) (L:=F16L2 k c) (σ:=Unit) (fun i _=>(i:Int)) (fun s=>s) (fun i x _=>if egE c.Sheets.length x != 0 then .inl (3,(i:Int),egE c.Sheets.length x) else .inr ()) (fun _ _=>True) (fun _ _ _ _ _ _=>trivial)
  (fun n i s hi _=>by
   rw [F16L2,if_pos (by simp;omega),idx_nat hi,Option.bind_some,w64_id (by omega) (by omega),e48_2 (by omega),Option.bind_some]
   cases hab:(okN 0 ((c.Sheets.length:Int)-1) c.Edges[i]!.A&&okN 0 ((c.Sheets.length:Int)-1) c.Edges[i]!.B) with
   | false=>simp only [egE,hab];rfl
   | true =>
    simp only [Bool.not_true,Bool.false_eq_true,if_false]
    cases hq:c.Edges[i]!.A==c.Edges[i]!.B with
    | true=>simp only [egE,hab,hq,if_true];rfl
    | false =>
     simp only [Bool.false_eq_true,if_false]
     rw [e48_1 (by omega),Option.bind_some]
     cases hl:okN 1 4 c.Edges[i]!.Points.length with
     | false=>simp only [egE,hab,hq,hl];rfl
     | true =>
      have hl':=okN_iff.1 hl
      simp only [Bool.not_true,Bool.false_eq_true,if_false]
      rw [e52 (by omega) (by omega) (by omega),Option.bind_some]
      have hall:(c.Edges[i]!.Points.any fun p => !okP p) = !c.Edges[i]!.Points.all okP:=by rw [List.all_eq_not_any_not,Bool.not_not]
      rw [hall]
      cases hp:c.Edges[i]!.Points.all okP with
      | false=>simp only [egE,hab,hq,hl,hp];rfl
      | true=>simp only [egE,hab,hq,hl,hp];rw [w64_id (by omega) (by omega)];rfl)
  (fun n s _=>by rw [F16L2,if_neg (by simp)]) k () trivial (by omega)
 rw [egF_run] at h
 rw [show (0:Int)=((0:Nat):Int) from rfl,h]
 cases egF c.Sheets.length c.Edges 0<;>rfl
theorem e16 {k:Nat} (hk:10≤k) (c:Cs):F16 k c=some (chk c):=by
 unfold F16 chk
 rw [e48_1 (by omega),Option.bind_some]
 cases okN 0 50 c.Tol with
 | false=>rfl
 | true =>
  simp only [Bool.not_true,Bool.false_eq_true,if_false,if_true]
  rw [e48_1 (by omega),Option.bind_some]
  cases hs:okN 1 5 c.Sheets.length with
  | false=>rfl
  | true =>
   have hs':=okN_iff.1 hs
   by_cases he:(c.Edges.length:Int)≤8
   ·rw [if_neg (by simp;omega),if_pos (by simp;omega),e16L1 hk (by omega),Option.bind_some]
    cases shF c c.Sheets 0 with
    | some p=>rfl
    | none =>
     simp only [outK]
     rw [e16L2 hk (by omega) (by omega),Option.bind_some]
     cases egF c.Sheets.length c.Edges 0<;>rfl
   ·rw [if_pos (by simp;omega),if_neg (by simp;omega)]
end Go.Proofs.Ytallnifoeahpiaa
namespace Go.Proofs.Ytallnifoeahpiaa
open Go Go.Sx
set_option linter.all false

theorem e54 (n lo hi:Int):F54 n lo hi=some (okN lo hi n):=by
 unfold F54 okN
 congr 1
 rw [Bool.eq_iff_iff]
 cases h:decide (n≥lo) with
 | true=>simp at h;simp [h]
 | false=>simp at h;simp [h]
theorem e106 (n lo hi:Int):F106 n lo hi=some (okN lo hi n):=e54 n lo hi


def okFrom (s:ByteArray) (pos:Nat):Prop:=∀i (h:i<s.size),pos≤i→okRune i (s[i]'h).toNat=true
theorem nameF_iff (s:ByteArray):∀(f pos:Nat),s.size≤pos+f→(nameF s f pos=true↔okFrom s pos):=by
 intro f
 induction f with
 | zero =>
  intro pos h
  exact ⟨fun _ i hi hp=>by omega,fun _=>rfl⟩
 | succ f ih =>
  intro pos h
  rw [nameF]
  by_cases hp:pos<s.size
  ·rw [if_pos hp]
   by_cases ha:(s[pos]'hp).toNat<128
   ·rw [decode_ascii s pos hp ha]
    simp only
    cases hk:okRune pos (s[pos]'hp).toNat with
    | true =>
     rw [if_pos rfl,ih (pos+1) (by omega)]
     exact ⟨fun h i hi hpi=>(Nat.eq_or_lt_of_le hpi).elim (fun e=>by subst e;exact hk) (fun e=>h i hi e),fun h i hi hpi=>h i hi (by omega)⟩
    | false =>
     simp only [Bool.false_eq_true,if_false,false_iff]
     intro h
     have:=h pos hp (Nat.le_refl _)
     rw [hk] at this;simp at this
   ·have hd:=(decode_high s pos hp (by omega)).1
    have h1:okRune pos (Utf8.decode s pos).1=false:=by
     simp only [okRune,Bool.or_eq_false_iff,Bool.and_eq_false_iff,decide_eq_false_iff_not]
     omega
    rw [h1]
    simp only [Bool.false_eq_true,if_false,false_iff]
    intro h
    have:=h pos hp (Nat.le_refl _)
    have h2:okRune pos (s[pos]'hp).toNat=false:=by
     simp only [okRune,Bool.or_eq_false_iff,Bool.and_eq_false_iff,decide_eq_false_iff_not]
     omega
    rw [h2] at this;simp at this
  ·rw [if_neg hp]
   exact ⟨fun _ i hi hpi=>by omega,fun _=>rfl⟩
theorem nameB_iff (s:ByteArray):nameB s=true↔okFrom s 0∧0<s.size∧s.size≤16:=by
 unfold nameB
 rw [Bool.and_eq_true,nameF_iff s s.size 0 (by omega)]
 simp


def badI (x:Int):Bool:=cond (cond (cond (decide (x<97)) true (decide (x>122))) (cond (decide (x<48)) true (decide (x>57))) false) (x != 45) false
theorem strAt_get {s:ByteArray} {i:Nat} (h:i<s.size):strAt s (i:Int)=some (((s[i]'h).toNat:Nat):Int):=by
 unfold strAt
 rw [if_pos (by omega),Int.toNat_natCast,getElem?_pos s i h]
 rfl
theorem e101L1_step {s:ByteArray} {n i:Nat} (h:i<s.size) (h62:s.size<2^62):F101L1 s (n+1) (i:Int)=if badI ((s[i]'h).toNat:Nat) then some (.inl false) else F101L1 s n ((i+1:Nat):Int):=by
 rw [F101L1,if_pos (by simp;omega),strAt_get h,Option.bind_some,w64_id (by omega) (by omega)]
 generalize (((s[i]'h).toNat:Nat):Int)=x
 unfold badI
 cases h1:decide (x<97)<;>cases h2:decide (x>122)<;>cases h3:decide (x<48)<;>cases h4:decide (x>57)<;>simp only [h1,h2,h3,h4,optG_true,optG_false,Option.bind_some,cond_true,cond_false,Bool.not_true,Bool.not_false,Bool.and_true,Bool.and_false,Bool.true_and,Bool.false_and]<;>rfl
theorem e101L1 {s:ByteArray} (h62:s.size<2^62):∀(m n i:Nat),s.size=i+m→m<n→F101L1 s n (i:Int)=if (∀j (h:j<s.size),i≤j→badI ((s[j]'h).toNat:Nat)=false) then some (.inr ()) else some (.inl false):=by
 intro m
 induction m with
 | zero =>
  intro n i hi hn
  obtain ⟨n,rfl⟩:∃q,n=q+1:=⟨n-1,by omega⟩
  rw [F101L1,if_neg (by simp;omega),if_pos (fun j hj hij=>by omega)]
 | succ m ih =>
  intro n i hi hn
  obtain ⟨n,rfl⟩:∃q,n=q+1:=⟨n-1,by omega⟩
  have hlt:i<s.size:=by omega
  rw [e101L1_step hlt h62]
  cases hb:badI ((s[i]'hlt).toNat:Nat) with
  | true=>rw [if_pos rfl,if_neg (fun h=>by rw [h i hlt (Nat.le_refl _)] at hb;simp at hb)]
  | false =>
   rw [if_neg (by simp),ih n (i+1) (by omega) (by omega)]
   by_cases h:∀j (h:j<s.size),i+1≤j→badI ((s[j]'h).toNat:Nat)=false
   ·rw [if_pos h,if_pos (fun j hj hij=>(Nat.eq_or_lt_of_le hij).elim (fun e=>by subst e;exact hb) (fun e=>h j hj e))]
   ·rw [if_neg h,if_neg (fun h'=>h (fun j hj hij=>h' j hj (by omega)))]
theorem badI_okRune {i n:Nat}:badI (n:Int)=false↔okRune (i+1) n=true:=by
 unfold badI okRune
 cases h1:decide ((n:Int)<97)<;>cases h2:decide ((n:Int)>122)<;>cases h3:decide ((n:Int)<48)<;>cases h4:decide ((n:Int)>57)<;>simp_all<;>omega
theorem e101 {k:Nat} (s:ByteArray) (hk:17≤k):F101 k s=some (nameB s):=by
 unfold F101
 rw [e106,Option.bind_some]
 cases hsz:okN 1 16 s.size with
 | false =>
  have:nameB s=false:=by
   cases hn:nameB s with
   | false=>rfl
   | true =>
    have:=(nameB_iff s).1 hn
    simp only [okN,Bool.and_eq_false_iff,decide_eq_false_iff_not] at hsz
    omega
  rw [this];rfl
 | true =>
  have hz:=okN_iff.1 hsz
  have h0:0<s.size:=by omega
  have hst:strAt s 0=some (((s[0]'h0).toNat:Nat):Int):=strAt_get h0
  rw [hst]
  simp only [Bool.not_true,Bool.not_false,optG_true,Option.bind_some]
  have key:∀b:Bool,(nameB s=b)→(if (cond (cond false true (decide ((((s[0]'h0).toNat:Nat):Int)<97))) true (decide ((((s[0]'h0).toNat:Nat):Int)>122))) then some false else ((F101L1 s k 0).bind fun o5=>outK o5 (fun (ro5:Bool)=>some ro5) (fun (so5:Unit)=>some true)))=some b:=by
   intro b hb
   rw [show (0:Int)=((0:Nat):Int) from rfl,e101L1 (by omega) s.size k 0 (by omega) (by omega)]
   by_cases hlow:(cond (cond false true (decide ((((s[0]'h0).toNat:Nat):Int)<97))) true (decide ((((s[0]'h0).toNat:Nat):Int)>122)))=true
   ·rw [if_pos hlow]
    cases b with
    | false=>rfl
    | true =>
     have:=((nameB_iff s).1 hb).1 0 h0 (Nat.le_refl _)
     exfalso
     simp only [okRune,Nat.lt_irrefl,decide_false,Bool.false_and,Bool.or_false,Bool.and_eq_true,decide_eq_true_eq] at this
     cases h1:decide ((((s[0]'h0).toNat:Nat):Int)<97)<;>simp_all<;>omega
   ·rw [if_neg hlow]
    have hlow':97≤(s[0]'h0).toNat∧(s[0]'h0).toNat≤122:=by
     cases h1:decide ((((s[0]'h0).toNat:Nat):Int)<97)<;>simp_all<;>omega
    by_cases hall:∀j (h:j<s.size),0≤j→badI ((s[j]'h).toNat:Nat)=false
    ·rw [if_pos hall]
     have:nameB s=true:=(nameB_iff s).2 ⟨fun i hi _=>by
      cases i with
      | zero=>simp [okRune];omega
      | succ i=>exact badI_okRune.1 (hall (i+1) hi (by omega)),by omega,by omega⟩
     rw [this] at hb;subst hb;rfl
    ·rw [if_neg hall]
     have:nameB s=false:=by
      cases hn:nameB s with
      | false=>rfl
      | true =>
       have h1:=((nameB_iff s).1 hn).1
       exact absurd (fun j hj _=>by
        cases j with
        | zero=>exact (badI_okRune (i:=0)).2 (by simp [okRune];omega)
        | succ j=>exact badI_okRune.2 (h1 (j+1) hj (by omega))) hall
     rw [this] at hb;subst hb;rfl
  have:=key (nameB s) rfl
  revert this
  cases h1:decide ((((s[0]'h0).toNat:Nat):Int)<97)<;>simp [optG]
end Go.Proofs.Ytallnifoeahpiaa
namespace Go.Proofs.Ytallnifoeahpiaa
open Go Go.Sx
set_option linter.all false

theorem e102 {k:Nat} {l:List ByteArray} {nm:ByteArray} (hk:l.length<k) (hl:l.length<2^62):F102v1 k l nm=some (match fstB (fun x=>x==nm) l 0 with|some k=>(k:Int)|none => -1):=by
 unfold F102v1
 obtain ⟨o,h1,h2⟩:=index_loop (l:=l) (L:=F102v1L1 l nm) (p:=fun x=>x==nm) hl
  (fun n i hi=>by rw [F102v1L1,if_pos (by simp;omega),idx_nat hi,Option.bind_some])
  (fun n=>by rw [F102v1L1,if_neg (by simp)]) k hk
 rw [h1,Option.bind_some,h2]
 cases fstB (fun x=>x==nm) l 0<;>rfl
theorem e55 {k:Nat} {before:List Sh} {s:Sh} (hk:17≤k) (hb:before.length≤5):F55v1 k s (before.map (·.Name))=some (shE before s):=by
 unfold F55v1 F84v1 shE
 rw [e101 s.Name hk,Option.bind_some]
 cases hn:nameB s.Name with
 | false=>rfl
 | true =>
  simp only [Bool.not_true,Bool.false_eq_true,if_false,if_true]
  rw [e102 (by simp;omega) (by simp;omega),Option.bind_some]
  have hany:=any_isSome (p:=fun x=>x==s.Name) (l:=before.map (·.Name)) (i:=0)
  rw [List.any_map] at hany
  have hany':(before.any fun x=>x.Name==s.Name)=(fstB (fun x=>x==s.Name) (before.map (·.Name)) 0).isSome:=hany.symm
  rw [hany']
  cases hf:fstB (fun x=>x==s.Name) (before.map (·.Name)) 0 with
  | some j=>simp only [Option.isSome_some,if_true];rw [if_pos (by simp)];rfl
  | none =>
   simp only [Option.isSome_none,Bool.false_eq_true,if_false]
   rw [if_neg (by simp)]
   simp only [Option.bind_some,e54]
   cases okN 0 20 s.Weight<;>cases okN 0 6 s.Most<;>rfl
theorem e56 {k:Nat} {x:Eg} {n:Int} (hk:10≤k) (h0:0≤n) (h1:n≤5):F56 k x n=some (egE n x):=by
 unfold F56 egE
 rw [w64_id (by omega) (by omega),e54,Option.bind_some,e54]
 cases ha:okN 0 (n-1) x.A with
 | false=>rfl
 | true =>
  rw [show optG (!!true) (some (okN 0 (n-1) x.B))=some (okN 0 (n-1) x.B) from rfl,Option.bind_some]
  cases hb:okN 0 (n-1) x.B with
  | false=>rfl
  | true =>
   simp only [Bool.not_true,cond_false,Bool.false_eq_true,if_false,Bool.and_self,if_true]
   cases hq:x.A==x.B with
   | true=>rfl
   | false =>
    simp only [Bool.false_eq_true,if_false]
    rw [e54,Option.bind_some]
    cases hl:okN 1 4 x.Points.length with
    | false=>rfl
    | true =>
     have hl':=okN_iff.1 hl
     simp only [Bool.not_true,Bool.false_eq_true,if_false,if_true]
     have h:=for_loop (l:=x.Points) (L:=F56L1 x) (β:=Int) (γ:=Unit) (σ:=Unit) (fun i _=>(i:Int)) (fun s=>s) (fun i p _=>if okP p then .inr () else .inl 7) (fun _ _=>True) (fun _ _ _ _ _ _=>trivial)
      (fun n i s hi _=>by
       rw [F56L1,if_pos (by simp;omega),idx_nat hi,Option.bind_some,e54,Option.bind_some]
       unfold okP
       cases hpa:okN 0 9000 x.Points[i]!.A with
       | false=>rfl
       | true =>
        simp only [Bool.not_true,Bool.not_false,optG_true,Option.bind_some,e54,Bool.true_and,cond_false]
        cases hpb:okN 0 9000 x.Points[i]!.B with
        | false=>rfl
        | true=>simp only [Bool.not_true,Bool.false_eq_true,if_false,if_true];rw [w64_id (by omega) (by omega)];rfl)
      (fun n s _=>by rw [F56L1,if_neg (by simp)]) k () trivial (by omega)
     rw [show (0:Int)=((0:Nat):Int) from rfl,h,Option.bind_some]
     have hr:∀(l:List Pt) (i:Nat),runE (β:=Int) (fun i p (_:Unit)=>if okP p then .inr () else .inl 7) l i ()=if l.all okP then .inr () else .inl 7:=by
      intro l
      induction l with
      | nil=>intro i;rfl
      | cons p l ih =>
       intro i
       rw [runE,List.all_cons]
       cases okP p with
       | true=>simp only [if_true,Bool.true_and];exact ih (i+1)
       | false=>rfl
     rw [hr]
     cases x.Points.all okP<;>rfl

theorem e17L1 {k:Nat} {c:Cs} (hk:17≤k) (hn:c.Sheets.length≤5):∃s,F17L1 k c k (0,[])=some (match shF c c.Sheets 0 with|some (i,e) => .inl (2,(i:Int),e)|none => .inr s):=by
 have h:=for_loop (l:=c.Sheets) (L:=F17L1 k c) (σ:=List ByteArray) (fun i s=>((i:Int),s)) (fun s=>s)
  (fun i x s=>if shE (c.Sheets.take i) x != 0 then .inl (2,(i:Int),shE (c.Sheets.take i) x) else .inr (s++[x.Name])) (fun i s=>s=(c.Sheets.take i).map (·.Name))
  (fun i s s' hi hs he=>by
   split at he
   ·simp at he
   ·have he':=Sum.inr.inj he
    subst he';subst hs
    rw [List.take_succ_eq_append_getElem hi,List.map_append,getElem!_pos c.Sheets i hi]
    rfl)
  (fun n i s hi hs=>by
   subst hs
   have hlen:(c.Sheets.take i).length≤5:=by rw [List.length_take];omega
   rw [F17L1,if_pos (by simp;omega),idx_nat hi,Option.bind_some,e55 hk hlen,Option.bind_some]
   cases shE (c.Sheets.take i) c.Sheets[i]! != 0 with
   | true=>rfl
   | false =>
    simp only [Bool.false_eq_true,if_false,Option.bind_some]
    rw [need_true (by simp only [List.length_map,List.length_cons,List.length_nil];omega),Option.bind_some,w64_id (by omega) (by omega)]
    rfl)
  (fun n s _=>by rw [F17L1,if_neg (by simp)]) k [] rfl (by omega)
 have hr:∀(l:List Sh) (i:Nat) (s:List ByteArray),∃s',runE (β:=Int×Int×Int) (fun i x (s:List ByteArray)=>if shE (c.Sheets.take i) x != 0 then .inl (2,(i:Int),shE (c.Sheets.take i) x) else .inr (s++[x.Name])) l i s=match shF c l i with|some (i,e) => .inl (2,(i:Int),e)|none => .inr s':=by
  intro l
  induction l with
  | nil=>intro i s;exact ⟨s,rfl⟩
  | cons x l ih =>
   intro i s
   rw [runE,shF]
   cases shE (c.Sheets.take i) x != 0 with
   | true=>exact ⟨s,rfl⟩
   | false=>simp only [Bool.false_eq_true,if_false];exact ih (i+1) _
 obtain ⟨s',hs'⟩:=hr c.Sheets 0 []
 rw [hs'] at h
 refine ⟨s',?_⟩
 rw [show ((0:Int),([]:List ByteArray))=(((0:Nat):Int),[]) from rfl,h]
 cases shF c c.Sheets 0<;>rfl
theorem e17L2 {k:Nat} {c:Cs} (hk:10≤k) (hn:c.Sheets.length≤5) (hm:c.Edges.length≤8):F17L2 k c k 0=some (match egF c.Sheets.length c.Edges 0 with|some (i,e) => .inl (3,(i:Int),e)|none => .inr ()):=by
 have h:=for_loop (l:=c.Edges) (L:=F17L2 k c) (σ:=Unit) (fun i _=>(i:Int)) (fun s=>s) (fun i x _=>if egE c.Sheets.length x != 0 then .inl (3,(i:Int),egE c.Sheets.length x) else .inr ()) (fun _ _=>True) (fun _ _ _ _ _ _=>trivial)
  (fun n i s hi _=>by
   rw [F17L2,if_pos (by simp;omega),idx_nat hi,Option.bind_some,e56 hk (by omega) (by omega),Option.bind_some]
   cases egE c.Sheets.length c.Edges[i]! != 0 with
   | true=>rfl
   | false=>simp only [Bool.false_eq_true,if_false];rw [w64_id (by omega) (by omega)];rfl)
  (fun n s _=>by rw [F17L2,if_neg (by simp)]) k () trivial (by omega)
 rw [egF_run] at h
 rw [show (0:Int)=((0:Nat):Int) from rfl,h]
 cases egF c.Sheets.length c.Edges 0<;>rfl
theorem e17 {k:Nat} (hk:17≤k) (c:Cs):F17 k c=some (chk c):=by
 unfold F17 chk
 rw [e54,Option.bind_some]
 cases okN 0 50 c.Tol with
 | false=>rfl
 | true =>
  simp only [Bool.not_true,Bool.false_eq_true,if_false,if_true]
  rw [e54,Option.bind_some]
  cases hs:okN 1 5 c.Sheets.length with
  | false=>rfl
  | true =>
   have hs':=okN_iff.1 hs
   by_cases he:(c.Edges.length:Int)≤8
   ·obtain ⟨s,h1⟩:=e17L1 (k:=k) (c:=c) hk (by omega)
    rw [if_neg (by simp;omega),if_pos (by simp;omega),h1,Option.bind_some]
    cases shF c c.Sheets 0 with
    | some p=>rfl
    | none =>
     simp only [outK]
     rw [e17L2 (by omega) (by omega) (by omega),Option.bind_some]
     cases egF c.Sheets.length c.Edges 0<;>rfl
   ·rw [if_pos (by simp;omega),if_neg (by simp;omega)]


structure Val (c:Cs):Prop where
 tol:0≤c.Tol∧c.Tol≤50
 sheets:1≤c.Sheets.length∧c.Sheets.length≤5
 edges:c.Edges.length≤8
 sh:∀s∈c.Sheets,0≤s.Weight∧s.Weight≤20∧0≤s.Most∧s.Most≤6
 eg:∀x∈c.Edges,0≤x.A∧x.A<c.Sheets.length∧0≤x.B∧x.B<c.Sheets.length∧x.A≠x.B∧1≤x.Points.length∧x.Points.length≤4∧∀p∈x.Points,0≤p.A∧p.A≤9000∧0≤p.B∧p.B≤9000
theorem egE_zero {n:Int} {x:Eg}:egE n x=0↔0≤x.A∧x.A<n∧0≤x.B∧x.B<n∧x.A≠x.B∧1≤x.Points.length∧x.Points.length≤4∧∀p∈x.Points,0≤p.A∧p.A≤9000∧0≤p.B∧p.B≤9000:=by
 unfold egE
 have hp:x.Points.all okP=true↔∀p∈x.Points,0≤p.A∧p.A≤9000∧0≤p.B∧p.B≤9000:=by
  rw [List.all_eq_true]
  constructor
  ·intro h p hp
   have:=h p hp
   simp only [okP,Bool.and_eq_true,okN_iff] at this
   exact ⟨this.1.1,this.1.2,this.2.1,this.2.2⟩
  ·intro h p hp
   have:=h p hp
   simp only [okP,Bool.and_eq_true,okN_iff]
   exact ⟨⟨this.1,this.2.1⟩,this.2.2.1,this.2.2.2⟩
 split
 ·rename_i h1
  simp only [Bool.and_eq_true,okN_iff] at h1
  split
  ·rename_i h2
   have:=eq_of_beq h2
   constructor
   ·intro h;simp at h
   ·intro h;exact absurd this h.2.2.2.2.1
  ·rename_i h2
   have hne:x.A≠x.B:=fun e=>h2 (by rw [e];simp)
   split
   ·rename_i h3
    have h3':=okN_iff.1 h3
    split
    ·rename_i h4
     exact ⟨fun _=>⟨h1.1.1,by omega,h1.2.1,by omega,hne,by omega,by omega,hp.1 h4⟩,fun _=>rfl⟩
    ·rename_i h4
     exact ⟨fun h=>by simp at h,fun h=>absurd (hp.2 h.2.2.2.2.2.2.2) h4⟩
   ·rename_i h3
    exact ⟨fun h=>by simp at h,fun h=>absurd (okN_iff.2 ⟨by omega,by omega⟩) h3⟩
 ·rename_i h1
  refine ⟨fun h=>by simp at h,fun h=>absurd ?_ h1⟩
  simp only [Bool.and_eq_true,okN_iff]
  omega
theorem shF_none {c:Cs}:∀{l:List Sh} {i:Nat},shF c l i=none→∀s∈l,∃before,shE before s=0:=by
 intro l
 induction l with
 | nil=>intro i _ s hs;simp at hs
 | cons x l ih =>
  intro i h s hs
  rw [shF] at h
  split at h
  ·simp at h
  ·rename_i h1
   rcases List.mem_cons.1 hs with rfl|hs
   ·exact ⟨_,by simpa using h1⟩
   ·exact ih h s hs
theorem egF_none {n:Int}:∀{l:List Eg} {i:Nat},egF n l i=none↔∀x∈l,egE n x=0:=by
 intro l
 induction l with
 | nil=>intro i;simp [egF]
 | cons x l ih =>
  intro i
  rw [egF]
  split
  ·rename_i h1
   exact ⟨fun h=>by simp at h,fun h=>by have:=h x (by simp);simp [this] at h1⟩
  ·rename_i h1
   rw [ih]
   exact ⟨fun h y hy=>(List.mem_cons.1 hy).elim (fun e=>by subst e;simpa using h1) (h y),fun h y hy=>h y (List.mem_cons_of_mem _ hy)⟩
theorem shE_zero {before:List Sh} {s:Sh} (h:shE before s=0):0≤s.Weight∧s.Weight≤20∧0≤s.Most∧s.Most≤6:=by
 unfold shE at h
 split at h
 ·split at h
  ·simp at h
  ·split at h
   ·rename_i h1
    simp only [Bool.and_eq_true,okN_iff] at h1
    omega
   ·simp at h
 ·simp at h
theorem chk_err {c:Cs}:(chk c).2.2=0→chk c=(0,0,0):=by
 unfold chk
 split
 ·split
  ·split
   ·rename_i i e h
    intro he
    simp only at he
    exfalso
    have:∀{l:List Sh} {j:Nat},shF c l j=some (i,e)→e≠0:=by
     intro l
     induction l with
     | nil=>intro j h;simp [shF] at h
     | cons x l ih =>
      intro j h
      rw [shF] at h
      split at h
      ·rename_i h1
       simp only [Option.some.injEq,Prod.mk.injEq] at h
       rw [←h.2];simpa using h1
      ·exact ih h
    exact this h he
   ·split
    ·rename_i i e h
     intro he
     simp only at he
     exfalso
     have:∀{l:List Eg} {j:Nat},egF c.Sheets.length l j=some (i,e)→e≠0:=by
      intro l
      induction l with
      | nil=>intro j h;simp [egF] at h
      | cons x l ih =>
       intro j h
       rw [egF] at h
       split at h
       ·rename_i h1
        simp only [Option.some.injEq,Prod.mk.injEq] at h
        rw [←h.2];simpa using h1
       ·exact ih h
     exact this h he
    ·intro _;rfl
  ·intro h;simp at h
 ·intro h;simp at h
theorem chk_val {c:Cs} (h:chk c=(0,0,0)):Val c:=by
 unfold chk at h
 split at h
 ·rename_i h1
  split at h
  ·rename_i h2
   simp only [Bool.and_eq_true,decide_eq_true_eq] at h2
   split at h
   ·simp at h
   ·rename_i h3
    split at h
    ·simp at h
    ·rename_i h4
     have a1:=okN_iff.1 h1
     have a2:=okN_iff.1 h2.1
     refine ⟨a1,by omega,by omega,fun s hs=>?_,fun x hx=>egE_zero.1 (egF_none.1 h4 x hx)⟩
     obtain ⟨b,hb⟩:=shF_none h3 s hs
     exact shE_zero hb
  ·simp at h
 ·simp at h
end Go.Proofs.Ytallnifoeahpiaa
