/- Plain steps: what programs in Option come to. -/
import Derived.Test.YtallnifoeahpiaaX3
namespace Go.Proofs.Ytallnifoeahpiaa
open Go Go.Sx
set_option linter.all false
theorem w64_id {n:Int} (h1 : -9223372036854775808≤n) (h2:n≤9223372036854775807):w64 n=n:=by
 show (if (true&&decide (n % (18446744073709551616:Int)≥9223372036854775808))=true then n % (18446744073709551616:Int)-18446744073709551616 else n % (18446744073709551616:Int))=n
 by_cases h:n % 18446744073709551616≥9223372036854775808
 ·rw [if_pos (by simp [h])];omega
 ·rw [if_neg (by simp [h])];omega
theorem idx_bang {α:Type} [Inhabited α] {l:List α} {c:Int} (h0:0≤c) (h1:c<l.length):idx l c=some l[c.toNat]! := by
 unfold idx
 rw [if_pos h0,List.getElem?_eq_getElem (by omega),getElem!_pos l c.toNat (by omega)]
theorem idx_nat {α:Type} [Inhabited α] {l:List α} {i:Nat} (h1:i<l.length):idx l (i:Int)=some l[i]! := by
 rw [idx_bang (by omega) (by omega),Int.toNat_natCast]
theorem idx_mid {α:Type} {pre suf:List α} {x:α} {c:Int} (h:c=pre.length):idx (pre++x::suf) c=some x:=by
 subst h
 unfold idx
 rw [if_pos (by omega),Int.toNat_natCast,List.getElem?_append_right (Nat.le_refl _)]
 simp
theorem need_true {p:Prop} [Decidable p] (h:p):need p=some ():=if_pos h
theorem optG_true {α:Type} [Inhabited α] {x:Option α}:optG true x=x:=rfl
theorem optG_false {α:Type} [Inhabited α] {x:Option α}:optG false x=some default:=rfl
theorem sub_take {α:Type} {l:List α} {c:Int} (h0:0≤c) (h1:c≤l.length):sub l 0 c=some (l.take c.toNat):=by
 unfold sub
 rw [if_pos ⟨by omega,h0,h1⟩]
 simp
theorem sub_drop {α:Type} {l:List α} {a c:Int} (h0:0≤a) (h1:a≤c) (h2:c≤l.length):sub l a c=some ((l.drop a.toNat).take (c-a).toNat):=by
 unfold sub
 rw [if_pos ⟨h0,h1,h2⟩]


def Ok {α:Type} (m:Option α) (Q:α→Prop):Prop:=∃x,m=some x∧Q x
theorem ok_some {α:Type} {x:α} {Q:α→Prop}:Ok (some x) Q↔Q x:=by simp [Ok]
theorem ok_bind {α β:Type} {m:Option α} {f:α→Option β} {Q:β→Prop}:Ok (m.bind f) Q↔Ok m (fun x=>Ok (f x) Q):=by
 cases m<;>simp [Ok]
theorem Ok.mono {α:Type} {m:Option α} {Q R:α→Prop} (h:Ok m Q) (k:∀x,Q x→R x):Ok m R:=by
 obtain ⟨x,h1,h2⟩:=h;exact ⟨x,h1,k x h2⟩
theorem ok_eq {α:Type} {m:Option α} {x:α}:Ok m (fun y=>y=x)↔m=some x:=by
 simp [Ok]

theorem ok_loop {σ β:Type} {f:Nat→σ→Option β} (I:σ→Prop) (m:σ→Nat) (Q:β→Prop)
 (step:∀n s,I s→(∀s',I s'→m s'<m s→Ok (f n s') Q)→Ok (f (n+1) s) Q):∀n s,I s→m s<n→Ok (f n s) Q:=by
 intro n
 induction n with
 | zero=>intro s _ h;omega
 | succ n ih=>intro s hs hm;exact step n s hs fun s' h1 h2=>ih s' h1 (by omega)
end Go.Proofs.Ytallnifoeahpiaa
