/- Plain steps: what programs in Option come to. -/
import Derived.Test.YtallnifoeahpiaaX3
namespace Go.Proofs.Ytallnifoeahpiaa
open Go Go.Sx
set_option linter.all false
theorem w64_id {n:Int} (h1 : -9223372036854775808≤n) (h2:n≤9223372036854775807):w64 n=n:=by
 show (if (true&&decide (n % (18446744073709551616:Int)≥9223372036854775808))=true then n % (18446744073709551616:Int)-18446744073709551616 else n % (18446744073709551616:Int))=n
 by_cases h:n % 18446744073709551616≥9223372036854775808
 ·rw [if_pos (by simp [h])];omega
 ·rw [if_neg (by simp [h])];omega
theorem idx_bang {α:Type} [Inhabited α] {l:List α} {c:Int} (h0:0≤c) (h1:c<l.length):idx l c=some l[c.toNat]! := by
 unfold idx
 rw [if_pos h0,List.getElem?_eq_getElem (by omega),getElem!_pos l c.toNat (by omega)]
theorem idx_nat {α:Type} [Inhabited α] {l:List α} {i:Nat} (h1:i<l.length):idx l (i:Int)=some l[i]! := by
 rw [idx_bang (by omega) (by omega),Int.toNat_natCast]
theorem idx_mid {α:Type} {pre suf:List α} {x:α} {c:Int} (h:c=pre.length):idx (pre++x::suf) c=some x:=by
 subst h
 unfold idx
 rw [if_pos (by omega),Int.toNat_natCast,List.getElem?_append_right (Nat.le_refl _)]
 simp
theorem need_true {p:Prop} [Decidable p] (h:p):need p=some ():=if_pos h
theorem optG_true {α:Type} [Inhabited α] {x:Option α}:optG true x=x:=rfl
theorem optG_false {α:Type} [Inhabited α] {x:Option α}:optG false x=some default:=rfl
theorem sub_take {α:Type} {l:List α} {c:Int} (h0:0≤c) (h1:c≤l.length):sub l 0 c=some (l.take c.toNat):=by
 unfold sub
 rw [if_pos ⟨by omega,h0,h1⟩]
 simp
theorem sub_drop {α:Type} {l:List α} {a c:Int} (h0:0≤a) (h1:a≤c) (h2:c≤l.length):sub l a c=some ((l.drop a.toNat).take (c-a).toNat):=by
 unfold sub
 rw [if_pos ⟨h0,h1,h2⟩]


def Ok {α:Type} (m:Option α) (Q:α→Prop):Prop:=∃x,m=some x∧Q x
theorem ok_some {α:Type} {x:α} {Q:α→Prop}:Ok (some x) Q↔Q x:=by simp [Ok]
theorem ok_bind {α β:Type} {m:Option α} {f:α→Option β} {Q:β→Prop}:Ok (m.bind f) Q↔Ok m (fun x=>Ok (f x) Q):=by
 cases m<;>simp [Ok]
theorem Ok.mono {α:Type} {m:Option α} {Q R:α→Prop} (h:Ok m Q) (k:∀x,Q x→R x):Ok m R:=by
 obtain ⟨x,h1,h2⟩:=h;exact ⟨x,h1,k x h2⟩
theorem ok_eq {α:Type} {m:Option α} {x:α}:Ok m (fun y=>y=x)↔m=some x:=by
 simp [Ok]

theorem ok_loop {σ β:Type} {f:Nat→σ→Option β} (I:σ→Prop) (m:σ→Nat) (Q:β→Prop)
 (step:∀n s,I s→(∀s',I s'→m s'<m s→Ok (f n s') Q)→Ok (f (n+1) s) Q):∀n s,I s→m s<n→Ok (f n s) Q:=by
 intro n
 induction n with
 | zero=>intro s _ h;omega
 | succ n ih=>intro s hs hm;exact step n s hs fun s' h1 h2=>ih s' h1 (by omega)
end Go.Proofs.Ytallnifoeahpiaa
namespace Go.Proofs.Ytallnifoeahpiaa
open Go Go.Sx
set_option linter.all false

section
variable {α σ τ β γ:Type} [Inhabited α]

def runE (f:Nat→α→σ→β⊕σ):List α→Nat→σ→β⊕σ
 | [],_,s => .inr s
 | x::xs,i,s=>match f i x s with
  | .inl b => .inl b
  | .inr s'=>runE f xs (i+1) s'
def outS (fin:σ→γ):β⊕σ→β⊕γ
 | .inl b => .inl b
 | .inr s => .inr (fin s)
theorem for_loop {l:List α} {L:Nat→τ→Option (β⊕γ)} (enc:Nat→σ→τ) (fin:σ→γ) (f:Nat→α→σ→β⊕σ) (P:Nat→σ→Prop)
 (hP:∀i s s',i<l.length→P i s→f i l[i]! s = .inr s'→P (i+1) s')
 (hstep:∀n i s,i<l.length→P i s→L (n+1) (enc i s)=match f i l[i]! s with | .inl b=>some (.inl b) | .inr s'=>L n (enc (i+1) s'))
 (hend:∀n s,P l.length s→L (n+1) (enc l.length s)=some (.inr (fin s))) :
 ∀n s,P 0 s→l.length<n→L n (enc 0 s)=some (outS fin (runE f l 0 s)):=by
 have key:∀(suf pre:List α) (n:Nat) (s:σ),l=pre++suf→P pre.length s→suf.length<n→L n (enc pre.length s)=some (outS fin (runE f suf pre.length s)):=by
  intro suf
  induction suf with
  | nil =>
   intro pre n s hl hp hn
   obtain ⟨n,rfl⟩:∃m,n=m+1:=⟨n-1,by simp at hn;omega⟩
   rw [List.append_nil] at hl
   subst hl
   rw [hend n s hp];rfl
  | cons x suf ih =>
   intro pre n s hl hp hn
   obtain ⟨n,rfl⟩:∃m,n=m+1:=⟨n-1,by simp at hn;omega⟩
   simp only [List.length_cons] at hn
   have hi:pre.length<l.length:=by rw [hl];simp
   have hx:l[pre.length]! = x:=by
    rw [getElem!_pos l pre.length hi]
    simp [hl]
   have hs:=hstep n pre.length s hi hp
   have hq:=hP pre.length s
   rw [hx] at hs hq
   rw [hs,runE]
   cases hf:f pre.length x s with
   | inl b=>rfl
   | inr s' =>
    simp only
    have:=ih (pre++[x]) n s' (by simp [hl]) (by simpa using hq s' hi hp hf) (by omega)
    simpa using this
 intro n s hp hn
 exact key l [] n s rfl hp hn


def foldI (g:Nat→α→σ→σ):List α→Nat→σ→σ
 | [],_,s=>s
 | x::xs,i,s=>foldI g xs (i+1) (g i x s)
theorem runE_fold (g:Nat→α→σ→σ):∀(l:List α) (i:Nat) (s:σ),runE (β:=β) (fun i x s => .inr (g i x s)) l i s = .inr (foldI g l i s):=by
 intro l
 induction l with
 | nil=>intro i s;rfl
 | cons x l ih=>intro i s;rw [runE,foldI];exact ih _ _
theorem for_fold {l:List α} {L:Nat→τ→Option (β⊕γ)} (enc:Nat→σ→τ) (fin:σ→γ) (g:Nat→α→σ→σ) (P:Nat→σ→Prop)
 (hP:∀i s,i<l.length→P i s→P (i+1) (g i l[i]! s))
 (hstep:∀n i s,i<l.length→P i s→L (n+1) (enc i s)=L n (enc (i+1) (g i l[i]! s)))
 (hend:∀n s,P l.length s→L (n+1) (enc l.length s)=some (.inr (fin s))) :
 ∀n s,P 0 s→l.length<n→L n (enc 0 s)=some (.inr (fin (foldI g l 0 s))):=by
 intro n s hp hn
 rw [for_loop enc fin (fun i x s => .inr (g i x s)) P (fun i s s' hi hp he=>by have he':=Sum.inr.inj he;subst he';exact hP i s hi hp) (fun n i s hi hp=>by simp only;exact hstep n i s hi hp) hend n s hp hn,runE_fold]
 rfl
theorem foldI_inv {l:List α} (g:Nat→α→σ→σ) (P:Nat→σ→Prop) (hP:∀i s,i<l.length→P i s→P (i+1) (g i l[i]! s)):∀s,P 0 s→P l.length (foldI g l 0 s):=by
 have key:∀(suf pre:List α) (s:σ),l=pre++suf→P pre.length s→P l.length (foldI g suf pre.length s):=by
  intro suf
  induction suf with
  | nil=>intro pre s hl hp;rw [List.append_nil] at hl;subst hl;exact hp
  | cons x suf ih =>
   intro pre s hl hp
   have hi:pre.length<l.length:=by rw [hl];simp
   have hx:l[pre.length]! = x:=by
    rw [getElem!_pos l pre.length hi];simp [hl]
   have:=hP pre.length s hi hp
   rw [hx] at this
   have h2:=ih (pre++[x]) (g pre.length x s) (by simp [hl]) (by simpa using this)
   simpa [foldI] using h2
 intro s hp
 exact key l [] s rfl hp
end


def fstB {α:Type} (p:α→Bool):List α→Nat→Option Nat
 | [],_=>none
 | x::xs,i=>if p x then some i else fstB p xs (i+1)
theorem fstB_none {α:Type} {p:α→Bool}:∀{l:List α} {i:Nat},fstB p l i=none↔l.any p=false:=by
 intro l
 induction l with
 | nil=>intro i;simp [fstB]
 | cons x l ih =>
  intro i
  rw [fstB,List.any_cons]
  cases hp:p x with
  | true=>simp
  | false=>simp [ih]
theorem any_isSome {α:Type} {p:α→Bool} {l:List α} {i:Nat}:(fstB p l i).isSome=l.any p:=by
 cases h:fstB p l i with
 | none=>rw [fstB_none.1 h];rfl
 | some k =>
  cases h2:l.any p with
  | true=>rfl
  | false=>rw [fstB_none.2 h2] at h;simp at h

theorem index_loop {α:Type} [Inhabited α] {l:List α} {L:Nat→Int→Option (Int⊕Unit)} {p:α→Bool} (h62:l.length<2^62)
 (hL:∀n (i:Nat),i<l.length→L (n+1) (i:Int)=if p l[i]! then some (.inl (i:Int)) else L n (w64 ((i:Int)+1)))
 (hend:∀n,L (n+1) (l.length:Int)=some (.inr ())) :
 ∀n,l.length<n→∃o,L n 0=some o∧outK o (fun (r:Int)=>some r) (fun (_:Unit)=>some (-1))=some (match fstB p l 0 with|some k=>(k:Int)|none => -1):=by
 intro n hn
 have h:=for_loop (l:=l) (L:=L) (σ:=Unit) (fun i _=>(i:Int)) (fun s=>s) (fun i x _=>if p x then .inl (i:Int) else .inr ()) (fun _ _=>True) (fun _ _ _ _ _ _=>trivial)
  (fun n i s hi _=>by
   rw [hL n i hi]
   cases p l[i]! with
   | true=>rfl
   | false=>simp only [Bool.false_eq_true,if_false];rw [w64_id (by omega) (by omega)];rfl)
  (fun n s _=>hend n) n () trivial hn
 refine ⟨_,h,?_⟩
 have hr:∀(l:List α) (i:Nat),runE (β:=Int) (fun i x (_:Unit)=>if p x then .inl (i:Int) else .inr ()) l i ()=match fstB p l i with|some k => .inl (k:Int)|none => .inr ():=by
  intro l
  induction l with
  | nil=>intro i;rfl
  | cons x l ih =>
   intro i
   rw [runE,fstB]
   cases p x with
   | true=>rfl
   | false=>simp only [Bool.false_eq_true,if_false];exact ih (i+1)
 rw [hr]
 cases fstB p l 0<;>rfl

theorem get_set {α:Type} [Inhabited α] {l:List α} {i j:Nat} {x:α} (hi:i<l.length) (hj:j<l.length):(l.set i x)[j]! = if i=j then x else l[j]! := by
 rw [getElem!_pos (l.set i x) j (by simpa using hj),List.getElem_set,getElem!_pos l j hj]
theorem get_rep {α:Type} [Inhabited α] {n i:Nat} {x:α} (h:i<n):(List.replicate n x)[i]! = x:=by
 rw [getElem!_pos (List.replicate n x) i (by simpa using h),List.getElem_replicate]

def okN (lo hi n:Int):Bool:=decide (lo≤n)&&decide (n≤hi)
theorem okN_iff {lo hi n:Int}:okN lo hi n=true↔lo≤n∧n≤hi:=by simp [okN]
end Go.Proofs.Ytallnifoeahpiaa
