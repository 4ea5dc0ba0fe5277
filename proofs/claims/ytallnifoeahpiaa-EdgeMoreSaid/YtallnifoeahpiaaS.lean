/- Pieces of code. Printed by a program of mine. -/
import Derived.Test.YtallnifoeahpiaaTab
import Derived.Test.YtallnifoeahpiaaP
import Derived.Test.YtallnifoeahpiaaNB
namespace Go.Proofs.Ytallnifoeahpiaa
open Go Go.Sx
set_option linter.unusedVariables false

noncomputable def asn88x0:Go.Code:=Go.Sx.bodyAt Try.f88 [1,1,0,1,0,0]
noncomputable def bdy88x0:Go.Code:=Go.Sx.bodyAt Try.f88 [1,1,0,1,0,1]

noncomputable def asn66x0:Go.Code:=Go.Sx.bodyAt Try.f66 [1,1,1,1,1,0,1,0,0,1,0,0,1,1,0,0]
noncomputable def bdy66x0:Go.Code:=Go.Sx.bodyAt Try.f66 [1,1,1,1,1,0,1,0,0,1,0,0,1,1,0,1]

theorem arrk101 {a:List Int} (ha:a.length=5):eqB Try.prog 101 (.agg (a.map di0))=true:=by
 match a,ha with
 | [a0,a1,a2,a3,a4],_=>show eqB Try.prog 101 (.agg [di0 a0,di0 a1,di0 a2,di0 a3,di0 a4])=true;kernel_rfl

section
variable {rd:Bool} {N fl:Nat} {T T':St} {H H':List O} {ps:List Prop} {Q:Exit→St→List O→Prop} {y c:Code} {id:Nat} {ops:Array Oper}
theorem gr (ks:List Nat) (hs:List Hint) (T':St) (H':List O) (ps:List Prop) (hp:AllP ps) (hq:awp Try.prog rd N fl y Q T' H') (he:evReg Try.prog tt N ops hs ks T H=some (T',H',ps):=by kernel_rfl):awp Try.prog rd N fl (.seq (.region id ops false) y) Q T H:=awp_sreg tt_ok T' H' ps he hp hq
theorem g0 (ks:List Nat) (hs:List Hint) (T':St) (H':List O) (hq:awp Try.prog rd N fl y Q T' H') (he:evReg Try.prog tt N ops hs ks T H=some (T',H',[]):=by kernel_rfl):awp Try.prog rd N fl (.seq (.region id ops false) y) Q T H:=awp_sreg tt_ok T' H' [] he trivial hq
theorem xr (ks:List Nat) (hs:List Hint) (T':St) (H':List O) (ps:List Prop) (hp:AllP ps) (hq:Q .normal T' H') (he:evReg Try.prog tt N ops hs ks T H=some (T',H',ps):=by kernel_rfl):awp Try.prog rd N fl (.region id ops false) Q T H:=awp_region tt_ok he hp hq
theorem x0 (ks:List Nat) (hs:List Hint) (T':St) (H':List O) (hq:Q .normal T' H') (he:evReg Try.prog tt N ops hs ks T H=some (T',H',[]):=by kernel_rfl):awp Try.prog rd N fl (.region id ops false) Q T H:=awp_region tt_ok he trivial hq
theorem gw (n:Nat) (ks:List Nat) (T':St) (H':List O) (h:awp Try.prog rd N fl c Q T' H') (hfl:Nat.ble fl n=true:=by kernel_rfl) (hT:wkT n ks T=T':=by kernel_rfl) (hH:wkH n H=H':=by kernel_rfl):awp Try.prog rd N fl c Q T H:=awp_wk n ks hfl T' H' hT hH h
theorem hr (ks:List Nat) (hs:List Hint) (T':St) (ps:List Prop) (hp:AllP ps) (hq:awp Try.prog rd N fl y Q T' H) (he:evReg Try.prog tt N ops hs ks T H=some (T',H,ps):=by kernel_rfl):awp Try.prog rd N fl (.seq (.region id ops false) y) Q T H:=awp_sreg tt_ok T' H ps he hp hq
theorem h0 (ks:List Nat) (hs:List Hint) (T':St) (hq:awp Try.prog rd N fl y Q T' H) (he:evReg Try.prog tt N ops hs ks T H=some (T',H,[]):=by kernel_rfl):awp Try.prog rd N fl (.seq (.region id ops false) y) Q T H:=awp_sreg tt_ok T' H [] he trivial hq
theorem yr (ks:List Nat) (hs:List Hint) (T':St) (ps:List Prop) (hp:AllP ps) (hq:Q .normal T' H) (he:evReg Try.prog tt N ops hs ks T H=some (T',H,ps):=by kernel_rfl):awp Try.prog rd N fl (.region id ops false) Q T H:=awp_region tt_ok he hp hq
theorem y0 (ks:List Nat) (hs:List Hint) (T':St) (hq:Q .normal T' H) (he:evReg Try.prog tt N ops hs ks T H=some (T',H,[]):=by kernel_rfl):awp Try.prog rd N fl (.region id ops false) Q T H:=awp_region tt_ok he trivial hq
theorem hw (n:Nat) (ks:List Nat) (T':St) (h:awp Try.prog rd N fl c Q T' H) (hfl:Nat.ble fl n=true:=by kernel_rfl) (hT:wkT n ks T=T':=by kernel_rfl) (hH:wkH n H=H:=by kernel_rfl):awp Try.prog rd N fl c Q T H:=awp_wk n ks hfl T' H hT hH h
theorem sd (ks:List Nat) (hs:List Hint) (m:Nat) (mid:List Nat) (T':St) (H':List O) (ps:List Prop) (hp:AllP ps) (hq:awp Try.prog rd N fl y Q T' H') (he:evAny Try.prog tt N m ops hs mid ks T H=some (T',H',ps):=by kernel_rfl):awp Try.prog rd N fl (.seq (.region id ops true) y) Q T H:=awp_seq (awp_any tt_ok mixed he hp hq)
theorem hd (ks:List Nat) (hs:List Hint) (m:Nat) (mid:List Nat) (T':St) (ps:List Prop) (hp:AllP ps) (hq:awp Try.prog rd N fl y Q T' H) (he:evAny Try.prog tt N m ops hs mid ks T H=some (T',H,ps):=by kernel_rfl):awp Try.prog rd N fl (.seq (.region id ops true) y) Q T H:=awp_seq (awp_any tt_ok mixed he hp hq)
theorem gn {m:Nat} (n:Nat) (ks:List Nat) (h:awpN Try.prog rd N fl c Q m T' H') (hfl:Nat.ble fl n=true:=by kernel_rfl) (hT:wkT n ks T=T':=by kernel_rfl) (hH:wkH n H=H':=by kernel_rfl):awpN Try.prog rd N fl c Q m T H:=awpN_wk n ks hfl T' H' hT hH h
theorem gs {e:Exit} (is ks:List Nat) (h:Q e T' H') (hok:selOk is H.length fl=true:=by kernel_rfl) (hT:selT is ks T=T':=by kernel_rfl) (hH:selH is H=H':=by kernel_rfl):Sel fl Q e T H:=Sel.mk is ks hok hT hH h
theorem gm {rs:List ResultVar} {r:V} (h:(resL tt T H rs).map resV=some r:=by kernel_rfl):retQ tt rs r .ret T H:=main_ret h
theorem GA (T':St) (H':List O) (hq:awp Try.prog rd N fl y Q T' H') (he:evReg Try.prog tt N ops [] (T'.map (·.1)) T H=some (T',H',[]):=by kernel_rfl):awp Try.prog rd N fl (.seq (.region id ops false) y) Q T H:=awp_sreg tt_ok T' H' [] he trivial hq
theorem XA (T':St) (H':List O) (hq:Q .normal T' H') (he:evReg Try.prog tt N ops [] (T'.map (·.1)) T H=some (T',H',[]):=by kernel_rfl):awp Try.prog rd N fl (.region id ops false) Q T H:=awp_region tt_ok he trivial hq
theorem HA (T':St) (hq:awp Try.prog rd N fl y Q T' H) (he:evReg Try.prog tt N ops [] (T'.map (·.1)) T H=some (T',H,[]):=by kernel_rfl):awp Try.prog rd N fl (.seq (.region id ops false) y) Q T H:=awp_sreg tt_ok T' H [] he trivial hq
theorem YA (T':St) (hq:Q .normal T' H) (he:evReg Try.prog tt N ops [] (T'.map (·.1)) T H=some (T',H,[]):=by kernel_rfl):awp Try.prog rd N fl (.region id ops false) Q T H:=awp_region tt_ok he trivial hq
theorem GB (hs:List Hint) (T':St) (H':List O) (ps:List Prop) (hp:AllP ps) (hq:awp Try.prog rd N fl y Q T' H') (he:evReg Try.prog tt N ops hs (T'.map (·.1)) T H=some (T',H',ps):=by kernel_rfl):awp Try.prog rd N fl (.seq (.region id ops false) y) Q T H:=awp_sreg tt_ok T' H' ps he hp hq
theorem XB (hs:List Hint) (T':St) (H':List O) (ps:List Prop) (hp:AllP ps) (hq:Q .normal T' H') (he:evReg Try.prog tt N ops hs (T'.map (·.1)) T H=some (T',H',ps):=by kernel_rfl):awp Try.prog rd N fl (.region id ops false) Q T H:=awp_region tt_ok he hp hq
theorem HB (hs:List Hint) (T':St) (ps:List Prop) (hp:AllP ps) (hq:awp Try.prog rd N fl y Q T' H) (he:evReg Try.prog tt N ops hs (T'.map (·.1)) T H=some (T',H,ps):=by kernel_rfl):awp Try.prog rd N fl (.seq (.region id ops false) y) Q T H:=awp_sreg tt_ok T' H ps he hp hq
theorem YB (hs:List Hint) (T':St) (ps:List Prop) (hp:AllP ps) (hq:Q .normal T' H) (he:evReg Try.prog tt N ops hs (T'.map (·.1)) T H=some (T',H,ps):=by kernel_rfl):awp Try.prog rd N fl (.region id ops false) Q T H:=awp_region tt_ok he hp hq
theorem WA (n:Nat) (T':St) (H':List O) (h:awp Try.prog rd N fl c Q T' H') (hfl:Nat.ble fl n=true:=by kernel_rfl) (hT:wkT n (T'.map (·.1)) T=T':=by kernel_rfl) (hH:wkH n H=H':=by kernel_rfl):awp Try.prog rd N fl c Q T H:=awp_wk n _ hfl T' H' hT hH h
theorem WB (n:Nat) (T':St) (h:awp Try.prog rd N fl c Q T' H) (hfl:Nat.ble fl n=true:=by kernel_rfl) (hT:wkT n (T'.map (·.1)) T=T':=by kernel_rfl) (hH:wkH n H=H:=by kernel_rfl):awp Try.prog rd N fl c Q T H:=awp_wk n _ hfl T' H hT hH h
theorem cd {α:Type} {o:Operand} {b:Bool} {A B z:α} {x:Code} (h:(if b=true then A else B)=z) (h1:b=true→A=z→awp Try.prog rd N fl x Q T H) (h2:b=false→B=z→awp Try.prog rd N fl y Q T H) (hc:getV T o=vb b:=by kernel_rfl):awp Try.prog rd N fl (.cond o x y) Q T H:=awp_cond hc (fun e=>h1 e (by rw [if_pos e] at h;exact h)) (fun e=>h2 e (by rw [if_neg (ntrue e)] at h;exact h))
theorem cuo {ρ σ α:Type} {m:Option (ρ⊕σ)} {f:ρ→Option α} {g:σ→Option α} {z:α} {x:Code} (h:m.bind (fun o=>outK o f g)=some z) (TR:ρ→St) (HR:ρ→List O) (TS:σ→St) (HS:σ→List O) (h1:∀o,m=some o→awp Try.prog rd N fl x (OutQ TR HR TS HS o) T H) (h2:∀r,f r=some z→Q .ret (TR r) (HR r)) (h3:∀s,g s=some z→Q .normal (TS s) (HS s)):awp Try.prog rd N fl x Q T H:=by
 obtain ⟨o,ho,h⟩:=Option.bind_eq_some_iff.1 h
 refine awp_cut1 (OutQ TR HR TS HS o) (h1 o ho) ?_
 intro e T H hq
 cases o with
 | inl r=>obtain ⟨rfl,rfl,rfl⟩:=hq;exact h2 r h
 | inr s=>obtain ⟨rfl,rfl,rfl⟩:=hq;exact h3 s h
theorem oi {α:Type} {a b:α} (h:some a=some b):a=b:=Option.some.inj h
end
abbrev cs (c:S_api_EdCase):O := .cells [vi c.Tol,.d (L66 c.Sheets),.d (L71 c.Edges)]
abbrev sv (a:Int) (b:List S_api_EdSheet) (c:List S_api_EdEdge) (d:List Int) (m:Nat):O := .vec [vi a,.d (L66 b),.d (L71 c)] d [.mp m]
abbrev rf (n:Nat):V := .ref n 0
abbrev vw (x:List Int):O := .vec [] x []
abbrev mq (m:List (List Int×Int)):O := .map (mpo101x3 m)
abbrev vl {α:Type} (l:List α):V:=vi (l.length:Int)
abbrev ca (c:S_api_EdCase):D := .agg [(di c.Tol),(L66 c.Sheets),(L71 c.Edges)]

end Go.Proofs.Ytallnifoeahpiaa
