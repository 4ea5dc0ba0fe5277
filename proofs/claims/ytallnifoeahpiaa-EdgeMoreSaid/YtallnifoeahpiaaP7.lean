/- Changes between others that agree; what Range and Least answer of a case that is right. -/
import Derived.Test.YtallnifoeahpiaaP5
import Derived.Test.YtallnifoeahpiaaPN
namespace Go.Proofs.Ytallnifoeahpiaa
open Go Go.Sx
set_option linter.all false

theorem ag_between {c:Cs} (hv:Val c) {x y:List Int} (hx:Ag c x) (hy:Ag c y) {i:Nat} (hi:i<c.Sheets.length) {v:Int} (h1:x[i]! ≤ v) (h2:v≤y[i]!):∃z,Ag c z∧z[i]! = v:=by
 have hs:=hv.sheets
 have h:=(ag_p5 hv hx).upp hv (ag_p5 hv hy) (a:=y[i]! - v) (by omega)
 refine ⟨_,p5_ag hv h,?_⟩
 rw [take_get hi (by rw [h.len];omega),upp_get hs.2 hi,pad_get (by have:=hx.1;omega),pad_get (by have:=hy.1;omega)]
 omega

theorem range_in {k:Nat} (hk:40≤k) {c:Cs} (h:(chk c).2.2=0) {i:Int} (h0:0≤i) (h1:i<c.Sheets.length):∃r,F25 k c i=some r ∧
 (((∀x,¬Ag c x)∧r=(⟨0,0⟩,9))∨(r.2=0∧(∃x,Ag c x∧x[i.toNat]! = r.1.Lo)∧(∃x,Ag c x∧x[i.toNat]! = r.1.Hi)∧∀x,Ag c x→r.1.Lo≤x[i.toNat]! ∧ x[i.toNat]! ≤ r.1.Hi)):=by
 have hs:=(chk_val (chk_err h)).sheets
 obtain ⟨r,a1,a2⟩:=e25 hk c i (by omega)
 refine ⟨r,a1,?_⟩
 rcases a2 with ⟨b,_⟩|⟨_,b,_⟩|⟨_,_,b1,b2⟩|⟨_,_,b⟩
 ·exact absurd h b
 ·exact absurd ⟨h0,h1⟩ b
 ·exact .inl ⟨b1,b2⟩
 ·exact .inr b

theorem least_in {k:Nat} (hk:100≤k) {c:Cs} (h:(chk c).2.2=0):∃r,F27 k c=some r ∧
 (((∀x,¬Ag c x)∧r=([],0,9))∨(r.2.2=0∧r.2.1=cost c r.1∧Ag c r.1∧∀y,Ag c y→cost c r.1≤cost c y∧(cost c y=cost c r.1→Le c r.1 y))):=by
 obtain ⟨r,a1,a2⟩:=e27 hk c
 refine ⟨r,a1,?_⟩
 rcases a2 with ⟨b,_⟩|⟨_,b1,b2⟩|⟨_,b⟩
 ·exact absurd h b
 ·exact .inl ⟨b1,b2⟩
 ·exact .inr b
end Go.Proofs.Ytallnifoeahpiaa
