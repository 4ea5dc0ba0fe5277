/- That functions of the seat compute this. Printed by a program of mine. -/
import Derived.Test.YtallnifoeahpiaaS
import Derived.Test.YtallnifoeahpiaaCRB
import Derived.Test.YtallnifoeahpiaaDLU
namespace Go.Proofs.Ytallnifoeahpiaa
open Go Go.Sx
set_option maxRecDepth 100000
set_option linter.unusedVariables false
theorem ct77  {l:(List Int)} {p_n:Int} {res:Int} (h:F77 l p_n=some res):PCall Try.prog 77 [(L5 l),(di p_n)] (vi res):=by
 refine PCall.of_awp tt_ok (N:=16) Try.func77 rfl (by kernel_rfl) rfl (Nat.le_of_ble_eq_true rfl) rfl ?_
 unfold F77 at h
 refine GA [(0,.d (L5 l)),(1,vi p_n)] [] ?_
 refine awp_seq (HA [(0,.d (L5 l)),(1,vi p_n),(7,vb ((l.length:Int)==0))] ?_)
 refine cd h (fun hb1 h=>?_) (fun hb1 h=>?_)
 ·refine GA [(4,vi 0)] [] ?_
  obtain rfl:=oi h
  refine WB 0 [(4,vi 0)] ?_
  exact awp_ret gm
 ·refine awp_skip ?_
  show awp ..
  obtain ⟨x2,hx2,h⟩:=ob h
  obtain ⟨x3,hx3,h⟩:=ob h
  refine GB [.no,.no,.no,.no,.no,.cells (cel5 x3)] [(4,vi (IntKind.i64.wrap x3))] [] [((l.length:Int)≠0),IX5 l (p_n.tmod (l.length:Int)) x3] (And.intro ((need_of hx2:(l.length:Int)≠0)) (idxOk cel5_len hx3)) ?_
  obtain rfl:=oi h
  refine WB 0 [(4,vi (IntKind.i64.wrap x3))] ?_
  exact awp_ret gm
theorem ct37 {fuel:Nat}  {p_c:S_api_EdCase} {p_x:(List Int)} {res:(List Int)} (h:F37 fuel p_c p_x=some res):PCall Try.prog 37 [(ca p_c),(L5 p_x)] (.d (L3 res)):=by
 refine PCall.of_awp tt_ok (N:=34) Try.func37 rfl (by kernel_rfl) rfl (Nat.le_of_ble_eq_true rfl) rfl ?_
 unfold F37 at h
 let q3:Nat×V:=(1,.d (L5 p_x))
 refine GA [q3,(2,rf 0)] [cs p_c] ?_
 refine HA [q3,(2,rf 0),(5,.d dnil)] ?_
 refine awp_seq (HA [q3,(2,rf 0),(5,.d dnil),(6,vi 0)] ?_)
 refine awp_nil 5 1 (by kernel_rfl) ?_
 let q2:List O:=[cs p_c,.data (([]:List Int).flatMap cel3)]
 let q5:Nat×V:=(5,.sl 1 1 0 ([]:List Int).length)
 refine awp_eq (T':=[q5,q3,(2,rf 0),(6,vi 0)]) (H':=[cs p_c,.data (([]:List Int).flatMap cel3)]) (by kernel_rfl) (by kernel_rfl) ?_
 refine WA 2 [q3,(2,rf 0),q5,(6,vi 0)] q2 ?_
 refine cuo h (fun (ro2:(List Int))=>[(4,.d (L3 ro2))]) (fun (ro2:(List Int))=>[]) (fun (so2:(List Int))=>[(5,.sl 1 1 0 so2.length)]) (fun (so2:(List Int))=>[cs p_c,.data (so2.flatMap cel3)]) (fun o2 h=>?_) (fun ro2 h=>?_) (fun so2 h=>?_)
 ·refine awp_selQ (WA 2 [q3,(2,rf 0),q5,(6,vi 0)] q2 ?_)
  refine awp_block (awp_loop (n:=fuel) ?_)
  refine awpN_ind (fun n (c3:Int×(List Int))=>F37L1 p_c p_x n c3) o2 (fun (c3:Int×(List Int))=>[q3,(2,rf 0),(5,.sl 1 1 0 c3.2.length),(6,vi c3.1)]) (fun (c3:Int×(List Int))=>[cs p_c,.data (c3.2.flatMap cel3)]) (fun _=>rfl) ?_ fuel (0,([]:List Int)) h
  clear h
  intro n4 c3 h hrn4
  change F37L1 p_c p_x (n4+1) c3=some o2 at h
  rw [F37L1] at h
  refine awp_seq (GA [q3,(2,rf 0),(5,.sl 1 1 0 c3.2.length),(6,vi c3.1),(12,vb (decide (c3.1<(p_c.Sheets.length:Int))))] [cs p_c,.data (c3.2.flatMap cel3)] ?_)
  refine cd h (fun hb5 h=>?_) (fun hb5 h=>?_)
  ·refine awp_skip ?_
   show awp ..
   refine awp_seq (awp_block ?_)
   obtain ⟨x6,hx6,h⟩:=ob h
   refine GB [.no,.no,.no,.cells (cel66 x6)] [q3,(2,rf 0),(5,.sl 1 1 0 c3.2.length),(6,vi c3.1),(7,vi x6.Most)] [cs p_c,.data (c3.2.flatMap cel3)] [IX66 p_c.Sheets c3.1 x6] (idxOk cel66_len hx6) ?_
   obtain ⟨x7,hx7,h⟩:=ob h
   obtain ⟨x8,hx8,h⟩:=ob h
   obtain ⟨x9,hx9,h⟩:=ob h
   let q4:=(w64 ((x7.tmod (w64 ((w64 (2*x6.Most))+1)))-x6.Most))
   let q1:=(c3.2++([q4]:List Int))
   refine XB [.no,.no,.no,.call [(L5 p_x),(di c3.1)] (vi x7),.no,.no,.no,.no,.no,.no,.no,.list q1.length (q1.flatMap cel3)] [q3,(2,rf 0),(5,.sl 1 1 0 q1.length),(6,vi c3.1)] [cs p_c,.data (q1.flatMap cel3)] [PCall Try.prog 77 [(L5 p_x),(di c3.1)] (vi x7),((w64 ((w64 (2*x6.Most))+1))≠0),AppendOk ((c3.2.flatMap cel3).map .d) c3.2.length ([q4]:List Int).length q1.length 1 8 (([q4]:List Int).flatMap cel3) (q1.flatMap cel3)] (And.intro (ct77 hx7) (And.intro ((need_of hx8:(w64 ((w64 (2*x6.Most))+1))≠0)) (appendOk cel3_len (need_of hx9)))) ?_
   show awp ..
   refine YA [q3,(2,rf 0),(5,.sl 1 1 0 q1.length),(6,vi (w64 (c3.1+1)))] ?_
   exact gn 2 [1,2,5,6] (hrn4 _ h)
  ·refine awp_exit ?_
   obtain rfl:=oi h
   exact gs [0,1] [5] OutQ.norm
 ·obtain rfl:=oi h
  exact gm
 ·show awp ..
  refine GA [(4,.sl 1 1 0 so2.length)] [cs p_c,.data (so2.flatMap cel3)] ?_
  obtain rfl:=oi h
  refine WB 2 [(4,.sl 1 1 0 so2.length)] ?_
  refine awp_freeze 4 1 (so2.flatMap cel3) (.sl 1 1 0 so2.length) (.d (L3 so2)) _ _ (ps:=[(so2.flatMap cel3).length=so2.length*1]) (by kernel_rfl) (by kernel_rfl) (by kernel_rfl) (flatMap_len cel3 1 cel3_len so2) rfl rfl ?_
  refine WA 2 [(4,.d (L3 so2))] q2 ?_
  exact awp_ret gm
theorem ct38 {fuel:Nat}  {p_c:S_api_EdCase} {l:(List Int)} {res:Bool} (h:F38 fuel p_c l=some res):PCall Try.prog 38 [(ca p_c),(L3 l)] (vb res):=by
 refine PCall.of_awp tt_ok (N:=15) Try.func38 rfl (by kernel_rfl) rfl (Nat.le_of_ble_eq_true rfl) rfl ?_
 unfold F38 at h
 refine GA [(1,.d (L3 l)),(2,rf 0)] [cs p_c] ?_
 obtain ⟨x1,hx1,h⟩:=ob h
 obtain ⟨x2,hx2,h⟩:=ob h
 refine HB [.no,.no,.call [(ca p_c),(L3 l)] (vi x1),.no,.no,.no,.no,.call [(ca p_c),(L3 l)] (vi x2)] [(4,vb (cond (x1==0) (decide (x2<0)) false))] [PCall Try.prog 61 [(ca p_c),(L3 l)] (vi x1),((x1==0)=true→(x1==0)=true),((x1==0)=true→(x1==0)=true),((x1==0)=true→PCall Try.prog 62 [(ca p_c),(L3 l)] (vi x2)),((x1==0)=true→(x1==0)=true),((x1==0)=true→(x1==0)=true)] (And.intro (ct61 hx1) (And.intro (id) (And.intro (id) (And.intro ((fun hg=>ct62 (optG_of hx2 hg))) (And.intro (id) (id)))))) ?_
 obtain rfl:=oi h
 refine WB 1 [(4,vb (cond (x1==0) (decide (x2<0)) false))] ?_
 exact awp_ret gm
end Go.Proofs.Ytallnifoeahpiaa
