/- Pieces of code. Printed by a program of mine. -/
import Derived.Test.YtpkhbbboedoldaaTab
import Derived.Test.YtpkhbbboedoldaaP
namespace Go.Proofs.Ytpkhbbboedoldaa
open Go Go.Sx
set_option linter.unusedVariables false

noncomputable def asn64x0 : Go.Code := Go.Sx.bodyAt Try.f64 [1, 1, 1, 1, 0, 1, 0, 0, 1, 1, 0, 0, 1, 1, 0, 0]
noncomputable def bdy64x0 : Go.Code := Go.Sx.bodyAt Try.f64 [1, 1, 1, 1, 0, 1, 0, 0, 1, 1, 0, 0, 1, 1, 0, 1]

noncomputable def asn33x0 : Go.Code := Go.Sx.bodyAt Try.f33 [1, 1, 1, 0, 1, 0, 0, 1, 1, 0, 0, 1, 1, 0, 1, 0, 0]
noncomputable def bdy33x0 : Go.Code := Go.Sx.bodyAt Try.f33 [1, 1, 1, 0, 1, 0, 0, 1, 1, 0, 0, 1, 1, 0, 1, 0, 1]

section
variable {rd : Bool} {N fl : Nat} {T T' : St} {H H' : List O} {ps : List Prop} {Q : Exit → St → List O → Prop} {y c : Code} {id : Nat} {ops : Array Oper}
theorem gr (ks : List Nat) (hs : List Hint) (T' : St) (H' : List O) (ps : List Prop) (hp : AllP ps) (hq : awp Try.prog rd N fl y Q T' H') (he : evReg Try.prog tt N ops hs ks T H = some (T', H', ps) := by kernel_rfl) : awp Try.prog rd N fl (.seq (.region id ops false) y) Q T H := awp_sreg tt_ok T' H' ps he hp hq
theorem g0 (ks : List Nat) (hs : List Hint) (T' : St) (H' : List O) (hq : awp Try.prog rd N fl y Q T' H') (he : evReg Try.prog tt N ops hs ks T H = some (T', H', []) := by kernel_rfl) : awp Try.prog rd N fl (.seq (.region id ops false) y) Q T H := awp_sreg tt_ok T' H' [] he trivial hq
theorem xr (ks : List Nat) (hs : List Hint) (T' : St) (H' : List O) (ps : List Prop) (hp : AllP ps) (hq : Q .normal T' H') (he : evReg Try.prog tt N ops hs ks T H = some (T', H', ps) := by kernel_rfl) : awp Try.prog rd N fl (.region id ops false) Q T H := awp_region tt_ok he hp hq
theorem x0 (ks : List Nat) (hs : List Hint) (T' : St) (H' : List O) (hq : Q .normal T' H') (he : evReg Try.prog tt N ops hs ks T H = some (T', H', []) := by kernel_rfl) : awp Try.prog rd N fl (.region id ops false) Q T H := awp_region tt_ok he trivial hq
theorem gw (n : Nat) (ks : List Nat) (T' : St) (H' : List O) (h : awp Try.prog rd N fl c Q T' H') (hfl : Nat.ble fl n = true := by kernel_rfl) (hT : wkT n ks T = T' := by kernel_rfl) (hH : wkH n H = H' := by kernel_rfl) : awp Try.prog rd N fl c Q T H := awp_wk n ks hfl T' H' hT hH h
theorem gn {m : Nat} (n : Nat) (ks : List Nat) (h : awpN Try.prog rd N fl c Q m T' H') (hfl : Nat.ble fl n = true := by kernel_rfl) (hT : wkT n ks T = T' := by kernel_rfl) (hH : wkH n H = H' := by kernel_rfl) : awpN Try.prog rd N fl c Q m T H := awpN_wk n ks hfl T' H' hT hH h
theorem gs {e : Exit} (is ks : List Nat) (h : Q e T' H') (hok : selOk is H.length fl = true := by kernel_rfl) (hT : selT is ks T = T' := by kernel_rfl) (hH : selH is H = H' := by kernel_rfl) : Sel fl Q e T H := Sel.mk is ks hok hT hH h
theorem gm {rs : List ResultVar} {r : V} (h : (resL tt T H rs).map resV = some r := by kernel_rfl) : retQ tt rs r .ret T H := main_ret h
end
abbrev mc (m : S_api_ClMap) : O := .cells [.d (L60 m.Borders), vi m.Step, .d (L60 m.Heights), .d (L51 m.Sides), vi m.Inks, .d (L51 m.Like)]
abbrev ma (m : S_api_ClMap) : D := .agg [(L60 m.Borders), (di m.Step), (L60 m.Heights), (L51 m.Sides), (di m.Inks), (L51 m.Like)]

end Go.Proofs.Ytpkhbbboedoldaa
