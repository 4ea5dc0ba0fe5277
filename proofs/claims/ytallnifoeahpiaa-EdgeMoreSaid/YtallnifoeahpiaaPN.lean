/- When a case is right. -/
import Derived.Test.YtallnifoeahpiaaPG
namespace Go.Proofs.Ytallnifoeahpiaa
open Go Go.Sx
set_option linter.all false

def NamesOk (l:List ByteArray):Prop:=∀i,i<l.length→nameB l[i]! = true∧(l.take i).any (· == l[i]!)=false
theorem shE_iff {before:List Sh} {s:Sh}:shE before s=0↔nameB s.Name=true∧(before.map (·.Name)).any (· == s.Name)=false∧0≤s.Weight∧s.Weight≤20∧0≤s.Most∧s.Most≤6:=by
 have hany:(before.map (·.Name)).any (· == s.Name)=before.any fun x=>x.Name==s.Name:=by rw [List.any_map];rfl
 unfold shE
 rw [hany]
 cases nameB s.Name with
 | false=>simp
 | true =>
  cases before.any fun x=>x.Name==s.Name with
  | true=>simp
  | false =>
   simp only [if_true,Bool.false_eq_true,if_false]
   by_cases h:(okN 0 20 s.Weight&&okN 0 6 s.Most)=true
   ·rw [if_pos h]
    simp only [Bool.and_eq_true,okN_iff] at h
    simp [h]
   ·rw [if_neg h]
    simp only [Bool.and_eq_true,okN_iff] at h
    simp only [true_and]
    constructor
    ·intro e;simp at e
    ·intro e;exact absurd ⟨⟨e.1,e.2.1⟩,e.2.2.1,e.2.2.2⟩ h
theorem shF_iff {c:Cs}:shF c c.Sheets 0=none↔∀i,i<c.Sheets.length→shE (c.Sheets.take i) c.Sheets[i]! = 0:=by
 have key:∀(suf pre:List Sh),c.Sheets=pre++suf→(shF c suf pre.length=none↔∀i,pre.length≤i→i<c.Sheets.length→shE (c.Sheets.take i) c.Sheets[i]! = 0):=by
  intro suf
  induction suf with
  | nil=>intro pre h;rw [List.append_nil] at h;rw [h];exact ⟨fun _ i h1 h2=>by omega,fun _=>rfl⟩
  | cons x suf ih =>
   intro pre h
   have hi:pre.length<c.Sheets.length:=by rw [h];simp
   have hx:c.Sheets[pre.length]! = x:=by rw [getElem!_pos c.Sheets _ hi];simp [h]
   have h2:=ih (pre++[x]) (by simp [h])
   simp only [List.length_append,List.length_cons,List.length_nil,Nat.zero_add] at h2
   rw [shF]
   by_cases h0:shE (c.Sheets.take pre.length) x=0
   ·rw [if_neg (by simp [h0]),h2]
    constructor
    ·intro h3 i a b
     by_cases e:i=pre.length
     ·subst e;rw [hx];exact h0
     ·exact h3 i (by omega) b
    ·intro h3 i a b;exact h3 i (by omega) b
   ·rw [if_pos (by simp [h0])]
    constructor
    ·intro e;simp at e
    ·intro h3
     have:=h3 pre.length (Nat.le_refl _) hi
     rw [hx] at this
     exact absurd this h0
 have:=key c.Sheets [] rfl
 simp only [List.length_nil] at this
 rw [this]
 exact ⟨fun h i hi=>h i (by omega) hi,fun h i _ hi=>h i hi⟩
theorem chk_zero {c:Cs}:(chk c).2.2=0↔(0≤c.Tol∧c.Tol≤50)∧(1≤c.Sheets.length∧c.Sheets.length≤5)∧c.Edges.length≤8∧NamesOk (c.Sheets.map (·.Name))∧(∀s∈c.Sheets,0≤s.Weight∧s.Weight≤20∧0≤s.Most∧s.Most≤6)∧∀x∈c.Edges,egE c.Sheets.length x=0:=by
 have hsh:(∀i,i<c.Sheets.length→shE (c.Sheets.take i) c.Sheets[i]! = 0)↔NamesOk (c.Sheets.map (·.Name))∧∀s∈c.Sheets,0≤s.Weight∧s.Weight≤20∧0≤s.Most∧s.Most≤6:=by
  have hg:∀i,i<c.Sheets.length→(c.Sheets.map (·.Name))[i]! = c.Sheets[i]!.Name:=fun i hi=>by
   rw [getElem!_pos _ i (by simpa using hi),getElem!_pos c.Sheets i hi];simp
  constructor
  ·intro h
   refine ⟨fun i hi=>?_,fun s hs=>?_⟩
   ·simp only [List.length_map] at hi
    have:=shE_iff.1 (h i hi)
    rw [hg i hi,←List.map_take]
    exact ⟨this.1,this.2.1⟩
   ·obtain ⟨i,hi,rfl⟩:=List.getElem_of_mem hs
    have:=shE_iff.1 (h i hi)
    rw [getElem!_pos c.Sheets i hi] at this
    exact this.2.2
  ·rintro ⟨h1,h2⟩ i hi
   have a:=h1 i (by simpa using hi)
   rw [hg i hi,←List.map_take] at a
   exact shE_iff.2 ⟨a.1,a.2,h2 _ (mem_get hi)⟩
 constructor
 ·intro h
  have hv:=chk_val (chk_err h)
  have h2:=chk_err h
  unfold chk at h2
  rw [if_pos (okN_iff.2 hv.tol)] at h2
  rw [if_pos (by rw [okN_iff.2 (by have:=hv.sheets;omega)];simp;have:=hv.edges;omega)] at h2
  refine ⟨hv.tol,hv.sheets,hv.edges,?_⟩
  cases hs:shF c c.Sheets 0 with
  | some p=>rw [hs] at h2;simp at h2
  | none =>
   have:=hsh.1 (shF_iff.1 hs)
   exact ⟨this.1,this.2,fun x hx=>egE_zero.2 (hv.eg x hx)⟩
 ·rintro ⟨h1,h2,h3,h4,h5,h6⟩
  unfold chk
  rw [if_pos (okN_iff.2 h1),if_pos (by rw [okN_iff.2 (by omega)];simp;omega),shF_iff.2 (hsh.2 ⟨h4,h5⟩),egF_none.2 h6]

theorem want_tol {c d:Cs} (h:d.Tol=c.Tol) (x:Eg):want d x=want c x:=by unfold want;rw [h]
theorem tmod_in {n m:Int} (h:0≤n) (hm:0<m):0≤n.tmod m∧n.tmod m<m:=⟨Int.tmod_nonneg _ h,Int.tmod_lt_of_pos _ hm⟩
end Go.Proofs.Ytallnifoeahpiaa
