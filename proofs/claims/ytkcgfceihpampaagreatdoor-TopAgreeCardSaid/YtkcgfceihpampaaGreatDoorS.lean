/- Pieces of code. Printed by a program of mine. -/
import Derived.Test.YtkcgfceihpampaaGreatDoorTab
import Derived.Test.YtkcgfceihpampaaGreatDoorP
import Derived.Test.YtkcgfceihpampaaGreatDoorNB
import Derived.Test.YtkcgfceihpampaaGreatDoorNC
namespace Go.Proofs.YtkcgfceihpampaaGreatDoor
open Go Go.Sx
set_option linter.unusedVariables false

noncomputable def asn70x0:Go.Code:=Go.Sx.bodyAt Tryz.f70 [1,0,1,0,0]
noncomputable def bdy70x0:Go.Code:=Go.Sx.bodyAt Tryz.f70 [1,0,1,0,1]

noncomputable def asn45x0:Go.Code:=Go.Sx.bodyAt Tryz.f45 [1,1,1,0,1,0,0]
noncomputable def bdy45x0:Go.Code:=Go.Sx.bodyAt Tryz.f45 [1,1,1,0,1,0,1]

noncomputable def asn169x0:Go.Code:=Go.Sx.bodyAt Tryz.f169 [1,1,0,1,0,0]
noncomputable def bdy169x0:Go.Code:=Go.Sx.bodyAt Tryz.f169 [1,1,0,1,0,1]

noncomputable def asn109x0:Go.Code:=Go.Sx.bodyAt Tryz.f109 [1,1,1,1,1,0,1,0,0,1,0,0,1,1,0,0]
noncomputable def bdy109x0:Go.Code:=Go.Sx.bodyAt Tryz.f109 [1,1,1,1,1,0,1,0,0,1,0,0,1,1,0,1]

theorem arrk124 {a:List Int} (ha:a.length=81):eqB2 Tryz.prog 124 (.agg (a.map di0))=true:=eqB_vec2 (n:=9) (m:=9) (e:=122) (s:=3) (k := .i64) (by kernel_rfl) (by kernel_rfl) (by kernel_rfl) (by kernel_rfl) (by kernel_rfl) (by kernel_rfl) (by kernel_rfl) (by kernel_rfl) rfl ha

theorem arrk188 {a:List Int} (ha:a.length=5):eqB Tryz.prog 188 (.agg (a.map di0))=true:=eqB_vec (n:=5) (e:=3) (k := .i64) (by kernel_rfl) (by kernel_rfl) (by kernel_rfl) (by kernel_rfl) (by kernel_rfl) ha

section
variable {rd:Bool} {N fl:Nat} {T T':St} {H H':List O} {ps:List Prop} {Q:Exit→St→List O→Prop} {y c:Code} {id:Nat} {ops:Array Oper}
theorem gr (ks:List Nat) (hs:List Hint) (T':St) (H':List O) (ps:List Prop) (hp:AllP ps) (hq:awp Tryz.prog rd N fl y Q T' H') (he:evReg Tryz.prog tt N ops hs ks T H=some (T',H',ps):=by kernel_rfl):awp Tryz.prog rd N fl (.seq (.region id ops false) y) Q T H:=awp_sreg tt_ok T' H' ps he hp hq
theorem g0 (ks:List Nat) (hs:List Hint) (T':St) (H':List O) (hq:awp Tryz.prog rd N fl y Q T' H') (he:evReg Tryz.prog tt N ops hs ks T H=some (T',H',[]):=by kernel_rfl):awp Tryz.prog rd N fl (.seq (.region id ops false) y) Q T H:=awp_sreg tt_ok T' H' [] he trivial hq
theorem xr (ks:List Nat) (hs:List Hint) (T':St) (H':List O) (ps:List Prop) (hp:AllP ps) (hq:Q .normal T' H') (he:evReg Tryz.prog tt N ops hs ks T H=some (T',H',ps):=by kernel_rfl):awp Tryz.prog rd N fl (.region id ops false) Q T H:=awp_region tt_ok he hp hq
theorem x0 (ks:List Nat) (hs:List Hint) (T':St) (H':List O) (hq:Q .normal T' H') (he:evReg Tryz.prog tt N ops hs ks T H=some (T',H',[]):=by kernel_rfl):awp Tryz.prog rd N fl (.region id ops false) Q T H:=awp_region tt_ok he trivial hq
theorem gw (n:Nat) (ks:List Nat) (T':St) (H':List O) (h:awp Tryz.prog rd N fl c Q T' H') (hfl:Nat.ble fl n=true:=by kernel_rfl) (hT:wkT n ks T=T':=by kernel_rfl) (hH:wkH n H=H':=by kernel_rfl):awp Tryz.prog rd N fl c Q T H:=awp_wk n ks hfl T' H' hT hH h
theorem hr (ks:List Nat) (hs:List Hint) (T':St) (ps:List Prop) (hp:AllP ps) (hq:awp Tryz.prog rd N fl y Q T' H) (he:evReg Tryz.prog tt N ops hs ks T H=some (T',H,ps):=by kernel_rfl):awp Tryz.prog rd N fl (.seq (.region id ops false) y) Q T H:=awp_sreg tt_ok T' H ps he hp hq
theorem h0 (ks:List Nat) (hs:List Hint) (T':St) (hq:awp Tryz.prog rd N fl y Q T' H) (he:evReg Tryz.prog tt N ops hs ks T H=some (T',H,[]):=by kernel_rfl):awp Tryz.prog rd N fl (.seq (.region id ops false) y) Q T H:=awp_sreg tt_ok T' H [] he trivial hq
theorem yr (ks:List Nat) (hs:List Hint) (T':St) (ps:List Prop) (hp:AllP ps) (hq:Q .normal T' H) (he:evReg Tryz.prog tt N ops hs ks T H=some (T',H,ps):=by kernel_rfl):awp Tryz.prog rd N fl (.region id ops false) Q T H:=awp_region tt_ok he hp hq
theorem y0 (ks:List Nat) (hs:List Hint) (T':St) (hq:Q .normal T' H) (he:evReg Tryz.prog tt N ops hs ks T H=some (T',H,[]):=by kernel_rfl):awp Tryz.prog rd N fl (.region id ops false) Q T H:=awp_region tt_ok he trivial hq
theorem hw (n:Nat) (ks:List Nat) (T':St) (h:awp Tryz.prog rd N fl c Q T' H) (hfl:Nat.ble fl n=true:=by kernel_rfl) (hT:wkT n ks T=T':=by kernel_rfl) (hH:wkH n H=H:=by kernel_rfl):awp Tryz.prog rd N fl c Q T H:=awp_wk n ks hfl T' H hT hH h
theorem sd (ks:List Nat) (hs:List Hint) (m:Nat) (mid:List Nat) (T':St) (H':List O) (ps:List Prop) (hp:AllP ps) (hq:awp Tryz.prog rd N fl y Q T' H') (he:evAny Tryz.prog tt N m ops hs mid ks T H=some (T',H',ps):=by kernel_rfl):awp Tryz.prog rd N fl (.seq (.region id ops true) y) Q T H:=awp_seq (awp_any tt_ok mixed he hp hq)
theorem hd (ks:List Nat) (hs:List Hint) (m:Nat) (mid:List Nat) (T':St) (ps:List Prop) (hp:AllP ps) (hq:awp Tryz.prog rd N fl y Q T' H) (he:evAny Tryz.prog tt N m ops hs mid ks T H=some (T',H,ps):=by kernel_rfl):awp Tryz.prog rd N fl (.seq (.region id ops true) y) Q T H:=awp_seq (awp_any tt_ok mixed he hp hq)
theorem gn {m:Nat} (n:Nat) (ks:List Nat) (h:awpN Tryz.prog rd N fl c Q m T' H') (hfl:Nat.ble fl n=true:=by kernel_rfl) (hT:wkT n ks T=T':=by kernel_rfl) (hH:wkH n H=H':=by kernel_rfl):awpN Tryz.prog rd N fl c Q m T H:=awpN_wk n ks hfl T' H' hT hH h
theorem gs {e:Exit} (is ks:List Nat) (h:Q e T' H') (hok:selOk is H.length fl=true:=by kernel_rfl) (hT:selT is ks T=T':=by kernel_rfl) (hH:selH is H=H':=by kernel_rfl):Sel fl Q e T H:=Sel.mk is ks hok hT hH h
theorem gm {rs:List ResultVar} {r:V} (h:(resL tt T H rs).map resV=some r:=by kernel_rfl):retQ tt rs r .ret T H:=main_ret h
theorem GA (T':St) (H':List O) (hq:awp Tryz.prog rd N fl y Q T' H') (he:evReg Tryz.prog tt N ops [] (T'.map (·.1)) T H=some (T',H',[]):=by kernel_rfl):awp Tryz.prog rd N fl (.seq (.region id ops false) y) Q T H:=awp_sreg tt_ok T' H' [] he trivial hq
theorem XA (T':St) (H':List O) (hq:Q .normal T' H') (he:evReg Tryz.prog tt N ops [] (T'.map (·.1)) T H=some (T',H',[]):=by kernel_rfl):awp Tryz.prog rd N fl (.region id ops false) Q T H:=awp_region tt_ok he trivial hq
theorem HA (T':St) (hq:awp Tryz.prog rd N fl y Q T' H) (he:evReg Tryz.prog tt N ops [] (T'.map (·.1)) T H=some (T',H,[]):=by kernel_rfl):awp Tryz.prog rd N fl (.seq (.region id ops false) y) Q T H:=awp_sreg tt_ok T' H [] he trivial hq
theorem YA (T':St) (hq:Q .normal T' H) (he:evReg Tryz.prog tt N ops [] (T'.map (·.1)) T H=some (T',H,[]):=by kernel_rfl):awp Tryz.prog rd N fl (.region id ops false) Q T H:=awp_region tt_ok he trivial hq
theorem GB (hs:List Hint) (T':St) (H':List O) (ps:List Prop) (hp:AllP ps) (hq:awp Tryz.prog rd N fl y Q T' H') (he:evReg Tryz.prog tt N ops hs (T'.map (·.1)) T H=some (T',H',ps):=by kernel_rfl):awp Tryz.prog rd N fl (.seq (.region id ops false) y) Q T H:=awp_sreg tt_ok T' H' ps he hp hq
theorem XB (hs:List Hint) (T':St) (H':List O) (ps:List Prop) (hp:AllP ps) (hq:Q .normal T' H') (he:evReg Tryz.prog tt N ops hs (T'.map (·.1)) T H=some (T',H',ps):=by kernel_rfl):awp Tryz.prog rd N fl (.region id ops false) Q T H:=awp_region tt_ok he hp hq
theorem HB (hs:List Hint) (T':St) (ps:List Prop) (hp:AllP ps) (hq:awp Tryz.prog rd N fl y Q T' H) (he:evReg Tryz.prog tt N ops hs (T'.map (·.1)) T H=some (T',H,ps):=by kernel_rfl):awp Tryz.prog rd N fl (.seq (.region id ops false) y) Q T H:=awp_sreg tt_ok T' H ps he hp hq
theorem YB (hs:List Hint) (T':St) (ps:List Prop) (hp:AllP ps) (hq:Q .normal T' H) (he:evReg Tryz.prog tt N ops hs (T'.map (·.1)) T H=some (T',H,ps):=by kernel_rfl):awp Tryz.prog rd N fl (.region id ops false) Q T H:=awp_region tt_ok he hp hq
theorem WA (n:Nat) (T':St) (H':List O) (h:awp Tryz.prog rd N fl c Q T' H') (hfl:Nat.ble fl n=true:=by kernel_rfl) (hT:wkT n (T'.map (·.1)) T=T':=by kernel_rfl) (hH:wkH n H=H':=by kernel_rfl):awp Tryz.prog rd N fl c Q T H:=awp_wk n _ hfl T' H' hT hH h
theorem WB (n:Nat) (T':St) (h:awp Tryz.prog rd N fl c Q T' H) (hfl:Nat.ble fl n=true:=by kernel_rfl) (hT:wkT n (T'.map (·.1)) T=T':=by kernel_rfl) (hH:wkH n H=H:=by kernel_rfl):awp Tryz.prog rd N fl c Q T H:=awp_wk n _ hfl T' H hT hH h
theorem cd {α:Type} {o:Operand} {b:Bool} {A B z:α} {x:Code} (h:(if b=true then A else B)=z) (h1:b=true→A=z→awp Tryz.prog rd N fl x Q T H) (h2:b=false→B=z→awp Tryz.prog rd N fl y Q T H) (hc:getV T o=vb b:=by kernel_rfl):awp Tryz.prog rd N fl (.cond o x y) Q T H:=awp_cond hc (fun e=>h1 e (by rw [if_pos e] at h;exact h)) (fun e=>h2 e (by rw [if_neg (ntrue e)] at h;exact h))
theorem cuo {ρ σ α:Type} {m:Option (ρ⊕σ)} {f:ρ→Option α} {g:σ→Option α} {z:α} {x:Code} (h:m.bind (fun o=>outK o f g)=some z) (TR:ρ→St) (HR:ρ→List O) (TS:σ→St) (HS:σ→List O) (h1:∀o,m=some o→awp Tryz.prog rd N fl x (OutQ TR HR TS HS o) T H) (h2:∀r,f r=some z→Q .ret (TR r) (HR r)) (h3:∀s,g s=some z→Q .normal (TS s) (HS s)):awp Tryz.prog rd N fl x Q T H:=by
 obtain ⟨o,ho,h⟩:=Zi.1 h;refine awp_cut1 (OutQ TR HR TS HS o) (h1 o ho) ?_;intro e T H hq;cases o with
 | inl r=>obtain ⟨rfl,rfl,rfl⟩:=hq;exact h2 r h
 | inr s=>obtain ⟨rfl,rfl,rfl⟩:=hq;exact h3 s h
theorem oi {α:Type} {a b:α} (h:some a=some b):a=b:=Option.some.inj h
end

section
variable {rd:Bool} {N fl:Nat} {S:SH} {ps:List Prop} {hs:List Hint} {Q:Exit→St→List O→Prop} {y c:Code} {id:Nat} {ops:Array Oper}
abbrev rf (n:Nat):V := .ref n 0
abbrev vw (x:List Int):O := .vec [] x []
abbrev vl {α:Type} (l:List α):V:=vi (l.length:Int)

theorem SK {T:St} {H:List O} (h:awp Tryz.prog rd N fl y Q T H):awp Tryz.prog rd N fl .skip (thenQ (awp Tryz.prog rd N fl y Q) Q) T H:=awp_skip h
theorem PO (N:Nat) {f:FuncId} {fn:Func} {c:Code} {args:List D} {r:V} (hf:Tryz.prog.funcs[f]? = some fn) (hb:fn.body=some c) (h:awp Tryz.prog false N 0 c (retQ tt fn.results.toList r) (entryT args) []) (hn:(fn.name == "runtime.NumGoroutine")=false:=by kernel_rfl) (hN:fn.ntmps=N:=by rfl) (hlen:args.length≤N:=by exact Zp rfl) (hr:isData r=true:=by rfl):PCall Tryz.prog f args r:=PCall.of_awp tt_ok hf hb hn hN hlen hr h
theorem HO (N fl:Nat) {H H':List O} {f:FuncId} {fn:Func} {c:Code} {args:List V} {r:V} (hf:Tryz.prog.funcs[f]? = some fn) (hb:fn.body=some c) (h:awp Tryz.prog false N fl c (retS tt fn.results.toList fl r H') (entryV args) H) (hn:(fn.name == "runtime.NumGoroutine")=false:=by kernel_rfl) (hN:fn.ntmps=N:=by rfl) (hfl:H.length=fl:=by rfl) (hlen:args.length≤N:=by exact Zp rfl):HCall Tryz.prog f args H r H':=HCall.of_awpS tt_ok hf hb hn hN hfl hlen h
theorem q_eq {e:Exit} {T T':St} {H H':List O} (hT:T=T') (hH:H=H') (h:Q e T' H'):Q e T H:=by rw [hT,hH];exact h
theorem EN {T:St} {H:List O} (h:awp Tryz.prog rd N fl c Q (pr T H).1 (pr T H).2):awp Tryz.prog rd N fl c Q T H:=h
theorem RT (pf:Pf hs ps) (hq:awp Tryz.prog rd N fl y Q (stR Tryz.prog tt N ops hs S).1 (stR Tryz.prog tt N ops hs S).2) (he:psR Tryz.prog tt N ops hs S=some ps:=by kernel_rfl):awp Tryz.prog rd N fl (.seq (.region id ops false) y) Q S.1 S.2:=awp_seq (awp_tight tt_ok pf he hq)
theorem R0 (hq:awp Tryz.prog rd N fl y Q (stR Tryz.prog tt N ops [] S).1 (stR Tryz.prog tt N ops [] S).2) (he:psR Tryz.prog tt N ops [] S=some []:=by kernel_rfl):awp Tryz.prog rd N fl (.seq (.region id ops false) y) Q S.1 S.2:=RT .nil hq he
theorem XT (pf:Pf hs ps) (hq:Q .normal (stR Tryz.prog tt N ops hs S).1 (stR Tryz.prog tt N ops hs S).2) (he:psR Tryz.prog tt N ops hs S=some ps:=by kernel_rfl):awp Tryz.prog rd N fl (.region id ops false) Q S.1 S.2:=awp_tight tt_ok pf he hq
theorem X0 (hq:Q .normal (stR Tryz.prog tt N ops [] S).1 (stR Tryz.prog tt N ops [] S).2) (he:psR Tryz.prog tt N ops [] S=some []:=by kernel_rfl):awp Tryz.prog rd N fl (.region id ops false) Q S.1 S.2:=XT .nil hq he
theorem ET (m:Nat) (pf:Pf hs ps) (hq:Q .normal (stA Tryz.prog tt N m ops hs S).1 (stA Tryz.prog tt N m ops hs S).2) (he:psA Tryz.prog tt N m ops hs S=some ps:=by kernel_rfl):awp Tryz.prog rd N fl (.region id ops true) Q S.1 S.2:=awp_tightA tt_ok mixed pf he hq
theorem DT (m:Nat) (pf:Pf hs ps) (hq:awp Tryz.prog rd N fl y Q (stA Tryz.prog tt N m ops hs S).1 (stA Tryz.prog tt N m ops hs S).2) (he:psA Tryz.prog tt N m ops hs S=some ps:=by kernel_rfl):awp Tryz.prog rd N fl (.seq (.region id ops true) y) Q S.1 S.2:=awp_seq (ET m pf hq he)
theorem RS (n:Nat) (hq:awp Tryz.prog rd N fl c Q (resN n S).1 (resN n S).2):awp Tryz.prog rd N fl c Q S.1 S.2:=awp_resN n hq
theorem LP {σ ρ:Type} {body:Code} (n:Nat) (ks:List Nat) (L:Nat→σ→Option ρ) (o:ρ) (TH:σ→SH) (fuel:Nat) (c0:σ) (h:L fuel c0=some o) (h0:∀c,L 0 c=none)
 (step:∀n c,L (n+1) c=some o→(∀c',L n c'=some o→awpN Tryz.prog rd N fl body (blockQ id Q) n (TH c').1 (TH c').2)→awp Tryz.prog rd N fl body (thenQ (awpN Tryz.prog rd N fl body (blockQ id Q) n) (blockQ id Q)) (TH c).1 (TH c).2)
 (hfl:Nat.ble fl n=true:=by kernel_rfl) (hT:wkT n ks S.1=(TH c0).1:=by kernel_rfl) (hH:wkH n S.2=(TH c0).2:=by kernel_rfl):awp Tryz.prog rd N fl (.block id (.loop body)) Q S.1 S.2:=awp_lp n ks L o TH fuel c0 h h0 step hfl hT hH
end

end Go.Proofs.YtkcgfceihpampaaGreatDoor
