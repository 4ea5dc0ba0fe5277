/- That functions of the seat compute this. Printed by a program of mine. -/
import Derived.Test.YtallnifoeahpiaaS
import Derived.Test.YtallnifoeahpiaaCEC
import Derived.Test.YtallnifoeahpiaaCED
import Derived.Test.YtallnifoeahpiaaCEF
import Derived.Test.YtallnifoeahpiaaCEG
import Derived.Test.YtallnifoeahpiaaCLU
import Derived.Test.YtallnifoeahpiaaCLV
import Derived.Test.YtallnifoeahpiaaCW
import Derived.Test.YtallnifoeahpiaaDLH
namespace Go.Proofs.Ytallnifoeahpiaa
open Go Go.Sx
set_option maxRecDepth 100000
set_option linter.unusedVariables false
theorem ct45 {fuel:Nat}  {p_c:S_api_EdCase} {p_x:S_hachurelaw02qShown} {res:S_api_EdCase×(List Int)} (h:F45 fuel p_c p_x=some res):PCall Try.prog 45 [(ca p_c),(.agg [(L5 p_x.Shifts),(L5 p_x.Off),(L78 p_x.High)])] (.tup [.d (ca res.1),.d (L3 res.2)]):=by
 refine PCall.of_awp tt_ok (N:=136) Try.func45 rfl (by kernel_rfl) rfl (Nat.le_of_ble_eq_true rfl) rfl ?_
 unfold F45 at h
 refine GA [(2,rf 0),(3,rf 1),(4,rf 2)] [cs p_c,.cells [.d (L5 p_x.Shifts),.d (L5 p_x.Off),.d (L78 p_x.High)],.cells [vi 0,.d dnil,.d dnil]] ?_
 obtain ⟨x1,hx1,h⟩:=ob h
 refine HB [.no,.no,.no,.call [(ca p_c),(L5 p_x.Shifts)] (.d (L3 x1))] [(2,rf 0),(3,rf 1),(4,rf 2),(6,.d (L3 x1))] [PCall Try.prog 37 [(ca p_c),(L5 p_x.Shifts)] (.d (L3 x1))] (ct37 hx1) ?_
 refine HA [(2,rf 0),(3,rf 1),(4,rf 2),(6,.d (L3 x1)),(7,.d dnil)] ?_
 refine awp_seq (HA [(2,rf 0),(3,rf 1),(4,rf 2),(6,.d (L3 x1)),(7,.d dnil),(8,vi 0)] ?_)
 refine awp_nil 7 1 (by kernel_rfl) ?_
 refine awp_eq (T':=[(7,.sl 1 3 0 ([]:List Int).length),(2,rf 0),(3,rf 1),(4,rf 2),(6,.d (L3 x1)),(8,vi 0)]) (H':=[cs p_c,.cells [.d (L5 p_x.Shifts),.d (L5 p_x.Off),.d (L78 p_x.High)],.cells [vi 0,.d dnil,.d dnil],.data (([]:List Int).flatMap cel3)]) (by kernel_rfl) (by kernel_rfl) ?_
 refine WA 4 [(2,rf 0),(3,rf 1),(4,rf 2),(6,.d (L3 x1)),(7,.sl 1 3 0 ([]:List Int).length),(8,vi 0)] [cs p_c,.cells [.d (L5 p_x.Shifts),.d (L5 p_x.Off),.d (L78 p_x.High)],.cells [vi 0,.d dnil,.d dnil],.data (([]:List Int).flatMap cel3)] ?_
 refine cuo h (fun (ro3:S_api_EdCase×(List Int))=>[(4,rf 0),(5,.d (L3 ro3.2))]) (fun (ro3:S_api_EdCase×(List Int))=>[cs ro3.1]) (fun (so3:(List Int))=>[(2,rf 0),(3,rf 1),(4,rf 2),(6,.d (L3 x1)),(7,.sl 1 3 0 so3.length)]) (fun (so3:(List Int))=>[cs p_c,.cells [.d (L5 p_x.Shifts),.d (L5 p_x.Off),.d (L78 p_x.High)],.cells [vi 0,.d dnil,.d dnil],.data (so3.flatMap cel3)]) (fun o3 h=>?_) (fun ro3 h=>?_) (fun so3 h=>?_)
 ·refine awp_selQ (WA 4 [(2,rf 0),(3,rf 1),(4,rf 2),(6,.d (L3 x1)),(7,.sl 1 3 0 ([]:List Int).length),(8,vi 0)] [cs p_c,.cells [.d (L5 p_x.Shifts),.d (L5 p_x.Off),.d (L78 p_x.High)],.cells [vi 0,.d dnil,.d dnil],.data (([]:List Int).flatMap cel3)] ?_)
  refine awp_block (awp_loop (n:=fuel) ?_)
  refine awpN_ind (fun n (c4:Int×(List Int))=>F45L1 x1 n c4) o3 (fun (c4:Int×(List Int))=>[(2,rf 0),(3,rf 1),(4,rf 2),(6,.d (L3 x1)),(7,.sl 1 3 0 c4.2.length),(8,vi c4.1)]) (fun (c4:Int×(List Int))=>[cs p_c,.cells [.d (L5 p_x.Shifts),.d (L5 p_x.Off),.d (L78 p_x.High)],.cells [vi 0,.d dnil,.d dnil],.data (c4.2.flatMap cel3)]) (fun _=>rfl) ?_ fuel (0,([]:List Int)) h
  clear h
  intro n5 c4 h hrn5
  change F45L1 x1 (n5+1) c4=some o3 at h
  rw [F45L1] at h
  refine awp_seq (GA [(2,rf 0),(3,rf 1),(4,rf 2),(6,.d (L3 x1)),(7,.sl 1 3 0 c4.2.length),(8,vi c4.1),(25,vb (decide (c4.1<(x1.length:Int))))] [cs p_c,.cells [.d (L5 p_x.Shifts),.d (L5 p_x.Off),.d (L78 p_x.High)],.cells [vi 0,.d dnil,.d dnil],.data (c4.2.flatMap cel3)] ?_)
  refine cd h (fun hb6 h=>?_) (fun hb6 h=>?_)
  ·refine awp_skip ?_
   show awp ..
   refine awp_seq (awp_block ?_)
   obtain ⟨x7,hx7,h⟩:=ob h
   obtain ⟨x8,hx8,h⟩:=ob h
   refine XB [.no,.no,.no,.cells (cel3 x7),.no,.no,.no,.list (c4.2++([(w64 (0-x7))]:List Int)).length ((c4.2++([(w64 (0-x7))]:List Int)).flatMap cel3)] [(2,rf 0),(3,rf 1),(4,rf 2),(6,.d (L3 x1)),(7,.sl 1 3 0 (c4.2++([(w64 (0-x7))]:List Int)).length),(8,vi c4.1)] [cs p_c,.cells [.d (L5 p_x.Shifts),.d (L5 p_x.Off),.d (L78 p_x.High)],.cells [vi 0,.d dnil,.d dnil],.data ((c4.2++([(w64 (0-x7))]:List Int)).flatMap cel3)] [IX3 x1 c4.1 x7,AppendOk ((c4.2.flatMap cel3).map .d) c4.2.length ([(w64 (0-x7))]:List Int).length (c4.2++([(w64 (0-x7))]:List Int)).length 1 8 (([(w64 (0-x7))]:List Int).flatMap cel3) ((c4.2++([(w64 (0-x7))]:List Int)).flatMap cel3)] (And.intro (idxOk cel3_len hx7) (appendOk cel3_len (need_of hx8))) ?_
   show awp ..
   refine YA [(2,rf 0),(3,rf 1),(4,rf 2),(6,.d (L3 x1)),(7,.sl 1 3 0 (c4.2++([(w64 (0-x7))]:List Int)).length),(8,vi (w64 (c4.1+1)))] ?_
   exact gn 4 [2,3,4,6,7,8] (hrn5 _ h)
  ·refine awp_exit ?_
   obtain rfl:=oi h
   exact gs [0,1,2,3] [2,3,4,6,7] OutQ.norm
 ·obtain rfl:=oi h
  exact gm
 ·show awp ..
  refine GB [] [(2,rf 0),(3,rf 1),(4,rf 2),(6,.d (L3 x1)),(7,.sl 1 3 0 so3.length),(9,vi (w64 (p_c.Tol.tdiv 2))),(10,vi 0)] [cs p_c,.cells [.d (L5 p_x.Shifts),.d (L5 p_x.Off),.d (L78 p_x.High)],.cells [vi 0,.d dnil,.d dnil],.data (so3.flatMap cel3)] [((2:Int)≠0)] ((by decide:(2:Int)≠0)) ?_
  refine HA [(2,rf 0),(3,rf 1),(4,rf 2),(6,.d (L3 x1)),(7,.sl 1 3 0 so3.length),(9,vi (w64 (p_c.Tol.tdiv 2))),(10,vi 0),(11,.d dnil)] ?_
  refine awp_seq (HA [(2,rf 0),(3,rf 1),(4,rf 2),(6,.d (L3 x1)),(7,.sl 1 3 0 so3.length),(9,vi (w64 (p_c.Tol.tdiv 2))),(10,vi 0),(11,.d dnil),(12,vi 0)] ?_)
  refine awp_nil 11 3 (by kernel_rfl) ?_
  refine awp_eq (T':=[(11,.sl 3 4 0 ([]:List S_api_EdEdge).length),(2,rf 0),(3,rf 1),(4,rf 2),(6,.d (L3 x1)),(7,.sl 1 3 0 so3.length),(9,vi (w64 (p_c.Tol.tdiv 2))),(10,vi 0),(12,vi 0)]) (H':=[cs p_c,.cells [.d (L5 p_x.Shifts),.d (L5 p_x.Off),.d (L78 p_x.High)],.cells [vi 0,.d dnil,.d dnil],.data (so3.flatMap cel3),.data (([]:List S_api_EdEdge).flatMap cel71)]) (by kernel_rfl) (by kernel_rfl) ?_
  refine WA 5 [(2,rf 0),(3,rf 1),(4,rf 2),(6,.d (L3 x1)),(7,.sl 1 3 0 so3.length),(9,vi (w64 (p_c.Tol.tdiv 2))),(10,vi 0),(11,.sl 3 4 0 ([]:List S_api_EdEdge).length),(12,vi 0)] [cs p_c,.cells [.d (L5 p_x.Shifts),.d (L5 p_x.Off),.d (L78 p_x.High)],.cells [vi 0,.d dnil,.d dnil],.data (so3.flatMap cel3),.data (([]:List S_api_EdEdge).flatMap cel71)] ?_
  refine cuo h (fun (ro10:S_api_EdCase×(List Int))=>[(4,rf 0),(5,.d (L3 ro10.2))]) (fun (ro10:S_api_EdCase×(List Int))=>[cs ro10.1]) (fun (so10:(List S_api_EdEdge))=>[(2,rf 0),(4,rf 2),(7,.sl 1 3 0 so3.length),(11,.sl 3 4 0 so10.length)]) (fun (so10:(List S_api_EdEdge))=>[cs p_c,.cells [.d (L5 p_x.Shifts),.d (L5 p_x.Off),.d (L78 p_x.High)],.cells [vi 0,.d dnil,.d dnil],.data (so3.flatMap cel3),.data (so10.flatMap cel71)]) (fun o10 h=>?_) (fun ro10 h=>?_) (fun so10 h=>?_)
  ·refine awp_selQ (WA 5 [(2,rf 0),(3,rf 1),(4,rf 2),(6,.d (L3 x1)),(7,.sl 1 3 0 so3.length),(9,vi (w64 (p_c.Tol.tdiv 2))),(10,vi 0),(11,.sl 3 4 0 ([]:List S_api_EdEdge).length),(12,vi 0)] [cs p_c,.cells [.d (L5 p_x.Shifts),.d (L5 p_x.Off),.d (L78 p_x.High)],.cells [vi 0,.d dnil,.d dnil],.data (so3.flatMap cel3),.data (([]:List S_api_EdEdge).flatMap cel71)] ?_)
   refine awp_block (awp_loop (n:=fuel) ?_)
   refine awpN_ind (fun n (c11:Int×Int×(List S_api_EdEdge))=>F45L2 fuel p_c p_x x1 n c11) o10 (fun (c11:Int×Int×(List S_api_EdEdge))=>[(2,rf 0),(3,rf 1),(4,rf 2),(6,.d (L3 x1)),(7,.sl 1 3 0 so3.length),(9,vi (w64 (p_c.Tol.tdiv 2))),(10,vi c11.1),(11,.sl 3 4 0 c11.2.2.length),(12,vi c11.2.1)]) (fun (c11:Int×Int×(List S_api_EdEdge))=>[cs p_c,.cells [.d (L5 p_x.Shifts),.d (L5 p_x.Off),.d (L78 p_x.High)],.cells [vi 0,.d dnil,.d dnil],.data (so3.flatMap cel3),.data (c11.2.2.flatMap cel71)]) (fun _=>rfl) ?_ fuel (0,0,([]:List S_api_EdEdge)) h
   clear h
   intro n12 c11 h hrn12
   change F45L2 fuel p_c p_x x1 (n12+1) c11=some o10 at h
   rw [F45L2] at h
   refine awp_seq (GA [(2,rf 0),(3,rf 1),(4,rf 2),(6,.d (L3 x1)),(7,.sl 1 3 0 so3.length),(9,vi (w64 (p_c.Tol.tdiv 2))),(10,vi c11.1),(11,.sl 3 4 0 c11.2.2.length),(12,vi c11.2.1),(43,vb (decide (c11.2.1<(p_c.Edges.length:Int))))] [cs p_c,.cells [.d (L5 p_x.Shifts),.d (L5 p_x.Off),.d (L78 p_x.High)],.cells [vi 0,.d dnil,.d dnil],.data (so3.flatMap cel3),.data (c11.2.2.flatMap cel71)] ?_)
   refine cd h (fun hb13 h=>?_) (fun hb13 h=>?_)
   ·refine awp_skip ?_
    show awp ..
    refine awp_seq (awp_block ?_)
    obtain ⟨x14,hx14,h⟩:=ob h
    refine GB [.no,.no,.no,.cells (cel71 x14)] [(2,rf 0),(3,rf 1),(4,rf 2),(6,.d (L3 x1)),(7,.sl 1 3 0 so3.length),(9,vi (w64 (p_c.Tol.tdiv 2))),(10,vi c11.1),(11,.sl 3 4 0 c11.2.2.length),(12,vi c11.2.1),(13,rf 5)] [cs p_c,.cells [.d (L5 p_x.Shifts),.d (L5 p_x.Off),.d (L78 p_x.High)],.cells [vi 0,.d dnil,.d dnil],.data (so3.flatMap cel3),.data (c11.2.2.flatMap cel71),.cells [vi x14.A,vi x14.B,.d (L74 x14.Points)]] [IX71 p_c.Edges c11.2.1 x14] (idxOk cel71_len hx14) ?_
    refine GA [(2,rf 0),(3,rf 1),(4,rf 2),(6,.d (L3 x1)),(7,.sl 1 3 0 so3.length),(9,vi (w64 (p_c.Tol.tdiv 2))),(10,vi c11.1),(11,.sl 3 4 0 c11.2.2.length),(12,vi c11.2.1),(13,rf 5)] [cs p_c,.cells [.d (L5 p_x.Shifts),.d (L5 p_x.Off),.d (L78 p_x.High)],.cells [vi 0,.d dnil,.d dnil],.data (so3.flatMap cel3),.data (c11.2.2.flatMap cel71),.cells [vi x14.A,vi x14.B,.d dnil]] ?_
    refine awp_seq (HA [(2,rf 0),(3,rf 1),(4,rf 2),(6,.d (L3 x1)),(7,.sl 1 3 0 so3.length),(9,vi (w64 (p_c.Tol.tdiv 2))),(10,vi c11.1),(11,.sl 3 4 0 c11.2.2.length),(12,vi c11.2.1),(13,rf 5),(14,vi 0)] ?_)
    refine awp_nilC 5 2 2 [vi x14.A,vi x14.B,.d dnil] [cs p_c,.cells [.d (L5 p_x.Shifts),.d (L5 p_x.Off),.d (L78 p_x.High)],.cells [vi 0,.d dnil,.d dnil],.data (so3.flatMap cel3),.data (c11.2.2.flatMap cel71),.cells [vi x14.A,vi x14.B,.sl 2 6 0 ([]:List S_api_EdPoint).length],.data (([]:List S_api_EdPoint).flatMap cel74)] (by kernel_rfl) (by kernel_rfl) (by kernel_rfl) ?_
    refine WA 7 [(2,rf 0),(3,rf 1),(4,rf 2),(6,.d (L3 x1)),(7,.sl 1 3 0 so3.length),(9,vi (w64 (p_c.Tol.tdiv 2))),(10,vi c11.1),(11,.sl 3 4 0 c11.2.2.length),(12,vi c11.2.1),(13,rf 5),(14,vi 0)] [cs p_c,.cells [.d (L5 p_x.Shifts),.d (L5 p_x.Off),.d (L78 p_x.High)],.cells [vi 0,.d dnil,.d dnil],.data (so3.flatMap cel3),.data (c11.2.2.flatMap cel71),.cells [vi x14.A,vi x14.B,.sl 2 6 0 ([]:List S_api_EdPoint).length],.data (([]:List S_api_EdPoint).flatMap cel74)] ?_
    refine cuo h (fun (ro16:S_api_EdCase×(List Int))=>[(4,rf 0),(5,.d (L3 ro16.2))]) (fun (ro16:S_api_EdCase×(List Int))=>[cs ro16.1]) (fun (so16:Int×(List S_api_EdPoint))=>[(2,rf 0),(3,rf 1),(4,rf 2),(6,.d (L3 x1)),(7,.sl 1 3 0 so3.length),(9,vi (w64 (p_c.Tol.tdiv 2))),(10,vi so16.1),(11,.sl 3 4 0 c11.2.2.length),(12,vi c11.2.1),(13,rf 5)]) (fun (so16:Int×(List S_api_EdPoint))=>[cs p_c,.cells [.d (L5 p_x.Shifts),.d (L5 p_x.Off),.d (L78 p_x.High)],.cells [vi 0,.d dnil,.d dnil],.data (so3.flatMap cel3),.data (c11.2.2.flatMap cel71),.cells [vi x14.A,vi x14.B,.sl 2 6 0 so16.2.length],.data (so16.2.flatMap cel74)]) (fun o16 h=>?_) (fun ro16 h=>?_) (fun so16 h=>?_)
    ·refine awp_selQ (WA 7 [(2,rf 0),(3,rf 1),(4,rf 2),(6,.d (L3 x1)),(7,.sl 1 3 0 so3.length),(9,vi (w64 (p_c.Tol.tdiv 2))),(10,vi c11.1),(11,.sl 3 4 0 c11.2.2.length),(12,vi c11.2.1),(13,rf 5),(14,vi 0)] [cs p_c,.cells [.d (L5 p_x.Shifts),.d (L5 p_x.Off),.d (L78 p_x.High)],.cells [vi 0,.d dnil,.d dnil],.data (so3.flatMap cel3),.data (c11.2.2.flatMap cel71),.cells [vi x14.A,vi x14.B,.sl 2 6 0 ([]:List S_api_EdPoint).length],.data (([]:List S_api_EdPoint).flatMap cel74)] ?_)
     refine awp_block (awp_loop (n:=fuel) ?_)
     refine awpN_ind (fun n (c17:Int×Int×(List S_api_EdPoint))=>F45L3 p_c p_x x1 c11 x14 n c17) o16 (fun (c17:Int×Int×(List S_api_EdPoint))=>[(2,rf 0),(3,rf 1),(4,rf 2),(6,.d (L3 x1)),(7,.sl 1 3 0 so3.length),(9,vi (w64 (p_c.Tol.tdiv 2))),(10,vi c17.1),(11,.sl 3 4 0 c11.2.2.length),(12,vi c11.2.1),(13,rf 5),(14,vi c17.2.1)]) (fun (c17:Int×Int×(List S_api_EdPoint))=>[cs p_c,.cells [.d (L5 p_x.Shifts),.d (L5 p_x.Off),.d (L78 p_x.High)],.cells [vi 0,.d dnil,.d dnil],.data (so3.flatMap cel3),.data (c11.2.2.flatMap cel71),.cells [vi x14.A,vi x14.B,.sl 2 6 0 c17.2.2.length],.data (c17.2.2.flatMap cel74)]) (fun _=>rfl) ?_ fuel (c11.1,0,([]:List S_api_EdPoint)) h
     clear h
     intro n18 c17 h hrn18
     change F45L3 p_c p_x x1 c11 x14 (n18+1) c17=some o16 at h
     rw [F45L3] at h
     refine awp_seq ?_
     obtain ⟨x19,hx19,h⟩:=ob h
     refine GB [.no,.no,.no,.no,.cells (cel71 x19)] [(2,rf 0),(3,rf 1),(4,rf 2),(6,.d (L3 x1)),(7,.sl 1 3 0 so3.length),(9,vi (w64 (p_c.Tol.tdiv 2))),(10,vi c17.1),(11,.sl 3 4 0 c11.2.2.length),(12,vi c11.2.1),(13,rf 5),(14,vi c17.2.1),(60,vb (decide (c17.2.1<(x19.Points.length:Int))))] [cs p_c,.cells [.d (L5 p_x.Shifts),.d (L5 p_x.Off),.d (L78 p_x.High)],.cells [vi 0,.d dnil,.d dnil],.data (so3.flatMap cel3),.data (c11.2.2.flatMap cel71),.cells [vi x14.A,vi x14.B,.sl 2 6 0 c17.2.2.length],.data (c17.2.2.flatMap cel74)] [IX71 p_c.Edges c11.2.1 x19] (idxOk cel71_len hx19) ?_
     refine cd h (fun hb20 h=>?_) (fun hb20 h=>?_)
     ·refine awp_skip ?_
      show awp ..
      refine awp_seq (awp_block ?_)
      refine GA [(2,rf 0),(3,rf 1),(4,rf 2),(6,.d (L3 x1)),(7,.sl 1 3 0 so3.length),(9,vi (w64 (p_c.Tol.tdiv 2))),(10,vi c17.1),(11,.sl 3 4 0 c11.2.2.length),(12,vi c11.2.1),(13,rf 5),(14,vi c17.2.1),(15,vi 100)] [cs p_c,.cells [.d (L5 p_x.Shifts),.d (L5 p_x.Off),.d (L78 p_x.High)],.cells [vi 0,.d dnil,.d dnil],.data (so3.flatMap cel3),.data (c11.2.2.flatMap cel71),.cells [vi x14.A,vi x14.B,.sl 2 6 0 c17.2.2.length],.data (c17.2.2.flatMap cel74)] ?_
      refine awp_seq (HA [(2,rf 0),(3,rf 1),(4,rf 2),(6,.d (L3 x1)),(7,.sl 1 3 0 so3.length),(9,vi (w64 (p_c.Tol.tdiv 2))),(10,vi c17.1),(11,.sl 3 4 0 c11.2.2.length),(12,vi c11.2.1),(13,rf 5),(14,vi c17.2.1),(15,vi 100),(66,vb (decide ((p_x.High.length:Int)>0)))] ?_)
      refine cuo h (fun (ro21:S_api_EdCase×(List Int))=>[(4,rf 0),(5,.d (L3 ro21.2))]) (fun (ro21:S_api_EdCase×(List Int))=>[cs ro21.1]) (fun (so21:Int)=>[(2,rf 0),(3,rf 1),(4,rf 2),(6,.d (L3 x1)),(7,.sl 1 3 0 so3.length),(9,vi (w64 (p_c.Tol.tdiv 2))),(10,vi c17.1),(11,.sl 3 4 0 c11.2.2.length),(12,vi c11.2.1),(13,rf 5),(14,vi c17.2.1),(15,vi so21)]) (fun (so21:Int)=>[cs p_c,.cells [.d (L5 p_x.Shifts),.d (L5 p_x.Off),.d (L78 p_x.High)],.cells [vi 0,.d dnil,.d dnil],.data (so3.flatMap cel3),.data (c11.2.2.flatMap cel71),.cells [vi x14.A,vi x14.B,.sl 2 6 0 c17.2.2.length],.data (c17.2.2.flatMap cel74)]) (fun o21 h=>?_) (fun ro21 h=>?_) (fun so21 h=>?_)
      ·refine awp_selQ (cd h (fun hb22 h=>?_) (fun hb22 h=>?_))
       ·obtain ⟨x23,hx23,h⟩:=ob h
        obtain ⟨x24,hx24,h⟩:=ob h
        refine awp_any (T':=[(2,rf 0),(3,rf 1),(4,rf 2),(6,.d (L3 x1)),(7,.sl 1 3 0 so3.length),(9,vi (w64 (p_c.Tol.tdiv 2))),(10,vi c17.1),(11,.sl 3 4 0 c11.2.2.length),(12,vi c11.2.1),(13,rf 5),(14,vi c17.2.1),(15,vi (w64 (100+((IntKind.i64.wrap x24).tmod 8800))))]) (H':=[cs p_c,.cells [.d (L5 p_x.Shifts),.d (L5 p_x.Off),.d (L78 p_x.High)],.cells [vi 0,.d dnil,.d dnil],.data (so3.flatMap cel3),.data (c11.2.2.flatMap cel71),.cells [vi x14.A,vi x14.B,.sl 2 6 0 c17.2.2.length],.data (c17.2.2.flatMap cel74)]) (ps:=[((p_x.High.length:Int)≠0),IX78 p_x.High (c17.1.tmod (p_x.High.length:Int)) x24,((8800:Int)≠0)]) tt_ok mixed (ks:=[2,3,4,6,7,9,10,11,12,13,14,15]) (hs:=[.no,.no,.no,.no,.no,.no,.no,.cells (cel78 x24)]) (m:=7) (mid:=[2,3,4,6,7,9,10,11,12,13,14,15,68,73,74,75,76,77,78]) (by kernel_rfl) (And.intro ((need_of hx23:(p_x.High.length:Int)≠0)) (And.intro (idxOk cel78_len hx24) ((by decide:(8800:Int)≠0)))) ?_
        obtain rfl:=oi h
        exact gs [0,1,2,3,4,5,6] [2,3,4,6,7,9,10,11,12,13,14,15] OutQ.norm
       ·refine awp_skip ?_
        obtain rfl:=oi h
        exact gs [0,1,2,3,4,5,6] [2,3,4,6,7,9,10,11,12,13,14,15] OutQ.norm
      ·obtain rfl:=oi h
       exact gs [0] [4,5] OutQ.ret
      ·show awp ..
       obtain ⟨x25,hx25,h⟩:=ob h
       obtain ⟨x26,hx26,h⟩:=ob h
       refine GB [.no,.no,.no,.no,.call [(L5 p_x.Off),(di (w64 (2*c17.1)))] (vi x25)] [(2,rf 0),(3,rf 1),(4,rf 2),(6,.d (L3 x1)),(7,.sl 1 3 0 so3.length),(9,vi (w64 (p_c.Tol.tdiv 2))),(10,vi c17.1),(11,.sl 3 4 0 c11.2.2.length),(12,vi c11.2.1),(13,rf 5),(14,vi c17.2.1),(15,vi so21),(16,vi (w64 ((x25.tmod (w64 ((w64 (2*(w64 (p_c.Tol.tdiv 2))))+1)))-(w64 (p_c.Tol.tdiv 2)))))] [cs p_c,.cells [.d (L5 p_x.Shifts),.d (L5 p_x.Off),.d (L78 p_x.High)],.cells [vi 0,.d dnil,.d dnil],.data (so3.flatMap cel3),.data (c11.2.2.flatMap cel71),.cells [vi x14.A,vi x14.B,.sl 2 6 0 c17.2.2.length],.data (c17.2.2.flatMap cel74)] [PCall Try.prog 77 [(L5 p_x.Off),(di (w64 (2*c17.1)))] (vi x25),((w64 ((w64 (2*(w64 (p_c.Tol.tdiv 2))))+1))≠0)] (And.intro (ct77 hx25) ((need_of hx26:(w64 ((w64 (2*(w64 (p_c.Tol.tdiv 2))))+1))≠0))) ?_
       obtain ⟨x27,hx27,h⟩:=ob h
       obtain ⟨x28,hx28,h⟩:=ob h
       refine HB [.no,.no,.no,.no,.no,.call [(L5 p_x.Off),(di (w64 ((w64 (2*c17.1))+1)))] (vi x27)] [(2,rf 0),(3,rf 1),(4,rf 2),(6,.d (L3 x1)),(7,.sl 1 3 0 so3.length),(9,vi (w64 (p_c.Tol.tdiv 2))),(10,vi c17.1),(11,.sl 3 4 0 c11.2.2.length),(12,vi c11.2.1),(13,rf 5),(14,vi c17.2.1),(15,vi so21),(16,vi (w64 ((x25.tmod (w64 ((w64 (2*(w64 (p_c.Tol.tdiv 2))))+1)))-(w64 (p_c.Tol.tdiv 2))))),(17,vi (w64 ((x27.tmod (w64 ((w64 (2*(w64 (p_c.Tol.tdiv 2))))+1)))-(w64 (p_c.Tol.tdiv 2)))))] [PCall Try.prog 77 [(L5 p_x.Off),(di (w64 ((w64 (2*c17.1))+1)))] (vi x27),((w64 ((w64 (2*(w64 (p_c.Tol.tdiv 2))))+1))≠0)] (And.intro (ct77 hx27) ((need_of hx28:(w64 ((w64 (2*(w64 (p_c.Tol.tdiv 2))))+1))≠0))) ?_
       obtain ⟨x29,hx29,h⟩:=ob h
       obtain ⟨x30,hx30,h⟩:=ob h
       obtain ⟨x31,hx31,h⟩:=ob h
       refine sd [2,3,4,6,7,9,10,11,12,13,14] [.no,.no,.no,.no,.no,.no,.cells (cel3 x29),.no,.no,.no,.no,.no,.no,.no,.no,.cells (cel3 x30),.no,.no,.no,.no,.no,.no,.list (c17.2.2++([(⟨(w64 ((w64 (so21+x29))+(w64 ((x25.tmod (w64 ((w64 (2*(w64 (p_c.Tol.tdiv 2))))+1)))-(w64 (p_c.Tol.tdiv 2)))))),(w64 ((w64 (so21+x30))+(w64 ((x27.tmod (w64 ((w64 (2*(w64 (p_c.Tol.tdiv 2))))+1)))-(w64 (p_c.Tol.tdiv 2))))))⟩:S_api_EdPoint)]:List S_api_EdPoint)).length ((c17.2.2++([(⟨(w64 ((w64 (so21+x29))+(w64 ((x25.tmod (w64 ((w64 (2*(w64 (p_c.Tol.tdiv 2))))+1)))-(w64 (p_c.Tol.tdiv 2)))))),(w64 ((w64 (so21+x30))+(w64 ((x27.tmod (w64 ((w64 (2*(w64 (p_c.Tol.tdiv 2))))+1)))-(w64 (p_c.Tol.tdiv 2))))))⟩:S_api_EdPoint)]:List S_api_EdPoint)).flatMap cel74)] 22 [2,3,4,6,7,9,10,11,12,13,14,103,123,124,125] [(2,rf 0),(3,rf 1),(4,rf 2),(6,.d (L3 x1)),(7,.sl 1 3 0 so3.length),(9,vi (w64 (p_c.Tol.tdiv 2))),(10,vi c17.1),(11,.sl 3 4 0 c11.2.2.length),(12,vi c11.2.1),(13,rf 5),(14,vi c17.2.1)] [cs p_c,.cells [.d (L5 p_x.Shifts),.d (L5 p_x.Off),.d (L78 p_x.High)],.cells [vi 0,.d dnil,.d dnil],.data (so3.flatMap cel3),.data (c11.2.2.flatMap cel71),.cells [vi x14.A,vi x14.B,.sl 2 6 0 (c17.2.2++([(⟨(w64 ((w64 (so21+x29))+(w64 ((x25.tmod (w64 ((w64 (2*(w64 (p_c.Tol.tdiv 2))))+1)))-(w64 (p_c.Tol.tdiv 2)))))),(w64 ((w64 (so21+x30))+(w64 ((x27.tmod (w64 ((w64 (2*(w64 (p_c.Tol.tdiv 2))))+1)))-(w64 (p_c.Tol.tdiv 2))))))⟩:S_api_EdPoint)]:List S_api_EdPoint)).length],.data ((c17.2.2++([(⟨(w64 ((w64 (so21+x29))+(w64 ((x25.tmod (w64 ((w64 (2*(w64 (p_c.Tol.tdiv 2))))+1)))-(w64 (p_c.Tol.tdiv 2)))))),(w64 ((w64 (so21+x30))+(w64 ((x27.tmod (w64 ((w64 (2*(w64 (p_c.Tol.tdiv 2))))+1)))-(w64 (p_c.Tol.tdiv 2))))))⟩:S_api_EdPoint)]:List S_api_EdPoint)).flatMap cel74)] [IX3 x1 x14.A x29,IX3 x1 x14.B x30,AppendOk ((c17.2.2.flatMap cel74).map .d) c17.2.2.length ([(⟨(w64 ((w64 (so21+x29))+(w64 ((x25.tmod (w64 ((w64 (2*(w64 (p_c.Tol.tdiv 2))))+1)))-(w64 (p_c.Tol.tdiv 2)))))),(w64 ((w64 (so21+x30))+(w64 ((x27.tmod (w64 ((w64 (2*(w64 (p_c.Tol.tdiv 2))))+1)))-(w64 (p_c.Tol.tdiv 2))))))⟩:S_api_EdPoint)]:List S_api_EdPoint).length (c17.2.2++([(⟨(w64 ((w64 (so21+x29))+(w64 ((x25.tmod (w64 ((w64 (2*(w64 (p_c.Tol.tdiv 2))))+1)))-(w64 (p_c.Tol.tdiv 2)))))),(w64 ((w64 (so21+x30))+(w64 ((x27.tmod (w64 ((w64 (2*(w64 (p_c.Tol.tdiv 2))))+1)))-(w64 (p_c.Tol.tdiv 2))))))⟩:S_api_EdPoint)]:List S_api_EdPoint)).length 2 16 (([(⟨(w64 ((w64 (so21+x29))+(w64 ((x25.tmod (w64 ((w64 (2*(w64 (p_c.Tol.tdiv 2))))+1)))-(w64 (p_c.Tol.tdiv 2)))))),(w64 ((w64 (so21+x30))+(w64 ((x27.tmod (w64 ((w64 (2*(w64 (p_c.Tol.tdiv 2))))+1)))-(w64 (p_c.Tol.tdiv 2))))))⟩:S_api_EdPoint)]:List S_api_EdPoint).flatMap cel74) ((c17.2.2++([(⟨(w64 ((w64 (so21+x29))+(w64 ((x25.tmod (w64 ((w64 (2*(w64 (p_c.Tol.tdiv 2))))+1)))-(w64 (p_c.Tol.tdiv 2)))))),(w64 ((w64 (so21+x30))+(w64 ((x27.tmod (w64 ((w64 (2*(w64 (p_c.Tol.tdiv 2))))+1)))-(w64 (p_c.Tol.tdiv 2))))))⟩:S_api_EdPoint)]:List S_api_EdPoint)).flatMap cel74)] (And.intro (idxOk cel3_len hx29) (And.intro (idxOk cel3_len hx30) (appendOk cel74_len (need_of hx31)))) ?_
       refine YA [(2,rf 0),(3,rf 1),(4,rf 2),(6,.d (L3 x1)),(7,.sl 1 3 0 so3.length),(9,vi (w64 (p_c.Tol.tdiv 2))),(10,vi (w64 (c17.1+1))),(11,.sl 3 4 0 c11.2.2.length),(12,vi c11.2.1),(13,rf 5),(14,vi c17.2.1)] ?_
       show awp ..
       refine YA [(2,rf 0),(3,rf 1),(4,rf 2),(6,.d (L3 x1)),(7,.sl 1 3 0 so3.length),(9,vi (w64 (p_c.Tol.tdiv 2))),(10,vi (w64 (c17.1+1))),(11,.sl 3 4 0 c11.2.2.length),(12,vi c11.2.1),(13,rf 5),(14,vi (w64 (c17.2.1+1)))] ?_
       exact gn 7 [2,3,4,6,7,9,10,11,12,13,14] (hrn18 _ h)
     ·refine awp_exit ?_
      obtain rfl:=oi h
      exact gs [0,1,2,3,4,5,6] [2,3,4,6,7,9,10,11,12,13] OutQ.norm
    ·obtain rfl:=oi h
     exact gs [0] [4,5] OutQ.ret
    ·show awp ..
     refine awp_freezeC 5 2 6 (so16.2.flatMap cel74) [vi x14.A,vi x14.B,.sl 2 6 0 so16.2.length] (.sl 2 6 0 so16.2.length) (.d (L74 so16.2)) _ _ (ps:=[(so16.2.flatMap cel74).length=so16.2.length*2]) (by kernel_rfl) (by kernel_rfl) (by kernel_rfl) (by kernel_rfl) (flatMap_len cel74 2 cel74_len so16.2) rfl rfl ?_
     refine WA 7 [(2,rf 0),(3,rf 1),(4,rf 2),(6,.d (L3 x1)),(7,.sl 1 3 0 so3.length),(9,vi (w64 (p_c.Tol.tdiv 2))),(10,vi so16.1),(11,.sl 3 4 0 c11.2.2.length),(12,vi c11.2.1),(13,rf 5)] [cs p_c,.cells [.d (L5 p_x.Shifts),.d (L5 p_x.Off),.d (L78 p_x.High)],.cells [vi 0,.d dnil,.d dnil],.data (so3.flatMap cel3),.data (c11.2.2.flatMap cel71),.cells [vi x14.A,vi x14.B,.d (L74 so16.2)],.data (([]:List S_api_EdPoint).flatMap cel74)] ?_
     obtain ⟨x32,hx32,h⟩:=ob h
     refine XB [.no,.no,.no,.list (c11.2.2++([(⟨x14.A,x14.B,so16.2⟩:S_api_EdEdge)]:List S_api_EdEdge)).length ((c11.2.2++([(⟨x14.A,x14.B,so16.2⟩:S_api_EdEdge)]:List S_api_EdEdge)).flatMap cel71)] [(2,rf 0),(3,rf 1),(4,rf 2),(6,.d (L3 x1)),(7,.sl 1 3 0 so3.length),(9,vi (w64 (p_c.Tol.tdiv 2))),(10,vi so16.1),(11,.sl 3 4 0 (c11.2.2++([(⟨x14.A,x14.B,so16.2⟩:S_api_EdEdge)]:List S_api_EdEdge)).length),(12,vi c11.2.1)] [cs p_c,.cells [.d (L5 p_x.Shifts),.d (L5 p_x.Off),.d (L78 p_x.High)],.cells [vi 0,.d dnil,.d dnil],.data (so3.flatMap cel3),.data ((c11.2.2++([(⟨x14.A,x14.B,so16.2⟩:S_api_EdEdge)]:List S_api_EdEdge)).flatMap cel71),.cells [vi x14.A,vi x14.B,.d (L74 so16.2)],.data (([]:List S_api_EdPoint).flatMap cel74)] [AppendOk ((c11.2.2.flatMap cel71).map .d) c11.2.2.length ([(⟨x14.A,x14.B,so16.2⟩:S_api_EdEdge)]:List S_api_EdEdge).length (c11.2.2++([(⟨x14.A,x14.B,so16.2⟩:S_api_EdEdge)]:List S_api_EdEdge)).length 3 40 (([(⟨x14.A,x14.B,so16.2⟩:S_api_EdEdge)]:List S_api_EdEdge).flatMap cel71) ((c11.2.2++([(⟨x14.A,x14.B,so16.2⟩:S_api_EdEdge)]:List S_api_EdEdge)).flatMap cel71)] (appendOk cel71_len (need_of hx32)) ?_
     show awp ..
     refine YA [(2,rf 0),(3,rf 1),(4,rf 2),(6,.d (L3 x1)),(7,.sl 1 3 0 so3.length),(9,vi (w64 (p_c.Tol.tdiv 2))),(10,vi so16.1),(11,.sl 3 4 0 (c11.2.2++([(⟨x14.A,x14.B,so16.2⟩:S_api_EdEdge)]:List S_api_EdEdge)).length),(12,vi (w64 (c11.2.1+1)))] ?_
     exact gn 5 [2,3,4,6,7,9,10,11,12] (hrn12 _ h)
   ·refine awp_exit ?_
    obtain rfl:=oi h
    exact gs [0,1,2,3,4] [2,4,7,11] OutQ.norm
  ·obtain rfl:=oi h
   exact gm
  ·show awp ..
   refine GA [(2,rf 0),(4,rf 2),(7,.sl 1 3 0 so3.length)] [.cells [vi p_c.Tol,.d (L66 p_c.Sheets),.sl 3 4 0 so10.length],.cells [.d (L5 p_x.Shifts),.d (L5 p_x.Off),.d (L78 p_x.High)],.cells [vi 0,.d dnil,.d dnil],.data (so3.flatMap cel3),.data (so10.flatMap cel71)] ?_
   refine GA [(4,rf 2),(5,.sl 1 3 0 so3.length)] [.cells [vi p_c.Tol,.d (L66 p_c.Sheets),.sl 3 4 0 so10.length],.cells [.d (L5 p_x.Shifts),.d (L5 p_x.Off),.d (L78 p_x.High)],.cells [vi p_c.Tol,.d (L66 p_c.Sheets),.sl 3 4 0 so10.length],.data (so3.flatMap cel3),.data (so10.flatMap cel71)] ?_
   obtain rfl:=oi h
   refine WB 5 [(4,rf 2),(5,.sl 1 3 0 so3.length)] ?_
   refine awp_freeze 5 3 (so3.flatMap cel3) (.sl 1 3 0 so3.length) (.d (L3 so3)) _ _ (ps:=[(so3.flatMap cel3).length=so3.length*1]) (by kernel_rfl) (by kernel_rfl) (by kernel_rfl) (flatMap_len cel3 1 cel3_len so3) rfl rfl ?_
   refine WA 5 [(4,rf 2),(5,.d (L3 so3))] [.cells [vi p_c.Tol,.d (L66 p_c.Sheets),.sl 3 4 0 so10.length],.cells [.d (L5 p_x.Shifts),.d (L5 p_x.Off),.d (L78 p_x.High)],.cells [vi p_c.Tol,.d (L66 p_c.Sheets),.sl 3 4 0 so10.length],.data (([]:List Int).flatMap cel3),.data (so10.flatMap cel71)] ?_
   refine awp_freezeC 2 2 4 (so10.flatMap cel71) [vi p_c.Tol,.d (L66 p_c.Sheets),.sl 3 4 0 so10.length] (.sl 3 4 0 so10.length) (.d (L71 so10)) _ _ (ps:=[(so10.flatMap cel71).length=so10.length*3]) (by kernel_rfl) (by kernel_rfl) (by kernel_rfl) (by kernel_rfl) (flatMap_len cel71 3 cel71_len so10) rfl rfl ?_
   refine WA 5 [(4,rf 2),(5,.d (L3 so3))] [.cells [vi p_c.Tol,.d (L66 p_c.Sheets),.top],.cells [.d (L5 p_x.Shifts),.d (L5 p_x.Off),.d (L78 p_x.High)],.cells [vi p_c.Tol,.d (L66 p_c.Sheets),.d (L71 so10)],.data (([]:List Int).flatMap cel3),.data (([]:List S_api_EdEdge).flatMap cel71)] ?_
   exact awp_ret gm
theorem ct10 {fuel:Nat}  {p_c:S_api_EdCase} {p_x:S_hachurelaw02qShown} {res:Bool} (h:F10 fuel p_c p_x=some res):PCall Try.prog 10 [(ca p_c),(.agg [(L5 p_x.Shifts),(L5 p_x.Off),(L78 p_x.High)])] (vb res):=by
 refine PCall.of_awp tt_ok (N:=149) Try.func10 rfl (by kernel_rfl) rfl (Nat.le_of_ble_eq_true rfl) rfl ?_
 unfold F10 at h
 refine GA [(2,rf 0),(3,rf 1)] [cs p_c,.cells [.d (L5 p_x.Shifts),.d (L5 p_x.Off),.d (L78 p_x.High)]] ?_
 refine awp_seq ?_
 obtain ⟨x1,hx1,h⟩:=ob h
 refine HB [.no,.call [(ca p_c)] (vb x1)] [(2,rf 0),(3,rf 1),(23,vb (!x1))] [PCall Try.prog 36 [(ca p_c)] (vb x1)] (ct36 hx1) ?_
 refine cd h (fun hb2 h=>?_) (fun hb2 h=>?_)
 ·obtain ⟨x3,hx3,h⟩:=ob h
  refine GB [.no,.call [(ca p_c)] (.tup [.d (L3 x3.1),vi x3.2])] [(6,vi x3.2)] [cs p_c,.cells [.d (L5 p_x.Shifts),.d (L5 p_x.Off),.d (L78 p_x.High)]] [PCall Try.prog 32 [(ca p_c)] (.tup [.d (L3 x3.1),vi x3.2])] (ct32 hx3) ?_
  obtain ⟨x4,hx4,h⟩:=ob h
  refine HB [.no,.no,.no,.call [] (vb x4)] [(4,vb (cond (x3.2 != 0) x4 false))] [((x3.2 != 0)=true→PCall Try.prog 24 [] (vb x4)),((x3.2 != 0)=true→(x3.2 != 0)=true)] (And.intro ((fun hg=>ct24 (optG_of hx4 hg))) (id)) ?_
  obtain rfl:=oi h
  refine WB 2 [(4,vb (cond (x3.2 != 0) x4 false))] ?_
  exact awp_ret gm
 ·refine awp_skip ?_
  show awp ..
  obtain ⟨x5,hx5,h⟩:=ob h
  refine GB [.no,.no,.call [(ca p_c),(.agg [(L5 p_x.Shifts),(L5 p_x.Off),(L78 p_x.High)])] (.tup [.d (ca x5.1),.d (L3 x5.2)])] [(7,rf 2),(8,.d (L3 x5.2))] [cs p_c,.cells [.d (L5 p_x.Shifts),.d (L5 p_x.Off),.d (L78 p_x.High)],cs x5.1] [PCall Try.prog 45 [(ca p_c),(.agg [(L5 p_x.Shifts),(L5 p_x.Off),(L78 p_x.High)])] (.tup [.d (ca x5.1),.d (L3 x5.2)])] (ct45 hx5) ?_
  obtain ⟨x6,hx6,h⟩:=ob h
  refine HB [.no,.no,.call [(ca x5.1),(L3 x5.2)] (.tup [vi x6.1,vi x6.2])] [(7,rf 2),(8,.d (L3 x5.2)),(9,vi x6.1),(10,vi x6.2)] [PCall Try.prog 20 [(ca x5.1),(L3 x5.2)] (.tup [vi x6.1,vi x6.2])] (ct20 hx6) ?_
  obtain ⟨x7,hx7,h⟩:=ob h
  refine HB [.no,.no,.call [(ca x5.1),(L3 x5.2)] (.tup [vi x7.1,vi x7.2])] [(7,rf 2),(8,.d (L3 x5.2)),(9,vi x6.1),(10,vi x6.2),(11,vi x7.1),(12,vi x7.2)] [PCall Try.prog 22 [(ca x5.1),(L3 x5.2)] (.tup [vi x7.1,vi x7.2])] (ct22 hx7) ?_
  obtain ⟨x8,hx8,h⟩:=ob h
  refine HB [.no,.call [(ca x5.1)] (.tup [.d (L3 x8.1),vi x8.2.1,vi x8.2.2])] [(7,rf 2),(8,.d (L3 x5.2)),(9,vi x6.1),(10,vi x6.2),(11,vi x7.1),(12,vi x7.2),(13,.d (L3 x8.1)),(14,vi x8.2.1),(15,vi x8.2.2)] [PCall Try.prog 27 [(ca x5.1)] (.tup [.d (L3 x8.1),vi x8.2.1,vi x8.2.2])] (ct27 hx8) ?_
  obtain ⟨x9,hx9,h⟩:=ob h
  refine HB [.no,.call [(ca x5.1)] (.tup [.d (L3 x9.1),vi x9.2])] [(7,rf 2),(8,.d (L3 x5.2)),(9,vi x6.1),(10,vi x6.2),(11,vi x7.1),(12,vi x7.2),(13,.d (L3 x8.1)),(14,vi x8.2.1),(15,vi x8.2.2),(16,.d (L3 x9.1)),(17,vi x9.2)] [PCall Try.prog 32 [(ca x5.1)] (.tup [.d (L3 x9.1),vi x9.2])] (ct32 hx9) ?_
  refine awp_seq (HB [] [(7,rf 2),(8,.d (L3 x5.2)),(13,.d (L3 x8.1)),(97,vb (F10e1 x6 x7 x8 x9 x5))] [((!(x6.2 != 0))=true→(!(x6.2 != 0))=true),((x6.2 != 0)=false→(!(x6.2 != 0))=true),((!(cond (x6.2 != 0) true (x6.1 != (-1))))=true→(!(cond (x6.2 != 0) true (x6.1 != (-1))))=true),((cond (x6.2 != 0) true (x6.1 != (-1)))=false→(!(cond (x6.2 != 0) true (x6.1 != (-1))))=true),((!(cond (cond (x6.2 != 0) true (x6.1 != (-1))) true (x7.2 != 0)))=true→(!(cond (cond (x6.2 != 0) true (x6.1 != (-1))) true (x7.2 != 0)))=true),((cond (cond (x6.2 != 0) true (x6.1 != (-1))) true (x7.2 != 0))=false→(!(cond (cond (x6.2 != 0) true (x6.1 != (-1))) true (x7.2 != 0)))=true),((!(cond (cond (cond (x6.2 != 0) true (x6.1 != (-1))) true (x7.2 != 0)) true (x8.2.2 != 0)))=true→(!(cond (cond (cond (x6.2 != 0) true (x6.1 != (-1))) true (x7.2 != 0)) true (x8.2.2 != 0)))=true),((cond (cond (cond (x6.2 != 0) true (x6.1 != (-1))) true (x7.2 != 0)) true (x8.2.2 != 0))=false→(!(cond (cond (cond (x6.2 != 0) true (x6.1 != (-1))) true (x7.2 != 0)) true (x8.2.2 != 0)))=true),((!(cond (cond (cond (cond (x6.2 != 0) true (x6.1 != (-1))) true (x7.2 != 0)) true (x8.2.2 != 0)) true (x9.2 != 0)))=true→(!(cond (cond (cond (cond (x6.2 != 0) true (x6.1 != (-1))) true (x7.2 != 0)) true (x8.2.2 != 0)) true (x9.2 != 0)))=true),((!(cond (cond (cond (cond (x6.2 != 0) true (x6.1 != (-1))) true (x7.2 != 0)) true (x8.2.2 != 0)) true (x9.2 != 0)))=true→(!(cond (cond (cond (cond (x6.2 != 0) true (x6.1 != (-1))) true (x7.2 != 0)) true (x8.2.2 != 0)) true (x9.2 != 0)))=true),((cond (cond (cond (cond (x6.2 != 0) true (x6.1 != (-1))) true (x7.2 != 0)) true (x8.2.2 != 0)) true (x9.2 != 0))=false→(!(cond (cond (cond (cond (x6.2 != 0) true (x6.1 != (-1))) true (x7.2 != 0)) true (x8.2.2 != 0)) true (x9.2 != 0)))=true),((!(cond (cond (cond (cond (cond (x6.2 != 0) true (x6.1 != (-1))) true (x7.2 != 0)) true (x8.2.2 != 0)) true (x9.2 != 0)) true (decide ((x9.1.length:Int)>0))))=true→(!(cond (cond (cond (cond (cond (x6.2 != 0) true (x6.1 != (-1))) true (x7.2 != 0)) true (x8.2.2 != 0)) true (x9.2 != 0)) true (decide ((x9.1.length:Int)>0))))=true),((!(cond (cond (cond (cond (cond (x6.2 != 0) true (x6.1 != (-1))) true (x7.2 != 0)) true (x8.2.2 != 0)) true (x9.2 != 0)) true (decide ((x9.1.length:Int)>0))))=true→(!(cond (cond (cond (cond (cond (x6.2 != 0) true (x6.1 != (-1))) true (x7.2 != 0)) true (x8.2.2 != 0)) true (x9.2 != 0)) true (decide ((x9.1.length:Int)>0))))=true),((cond (cond (cond (cond (cond (x6.2 != 0) true (x6.1 != (-1))) true (x7.2 != 0)) true (x8.2.2 != 0)) true (x9.2 != 0)) true (decide ((x9.1.length:Int)>0)))=false→(!(cond (cond (cond (cond (cond (x6.2 != 0) true (x6.1 != (-1))) true (x7.2 != 0)) true (x8.2.2 != 0)) true (x9.2 != 0)) true (decide ((x9.1.length:Int)>0))))=true),((!(cond (cond (cond (cond (cond (cond (x6.2 != 0) true (x6.1 != (-1))) true (x7.2 != 0)) true (x8.2.2 != 0)) true (x9.2 != 0)) true (decide ((x9.1.length:Int)>0))) true (decide (x8.2.1>x7.1))))=true→(!(cond (cond (cond (cond (cond (cond (x6.2 != 0) true (x6.1 != (-1))) true (x7.2 != 0)) true (x8.2.2 != 0)) true (x9.2 != 0)) true (decide ((x9.1.length:Int)>0))) true (decide (x8.2.1>x7.1))))=true),((!(cond (cond (cond (cond (cond (cond (x6.2 != 0) true (x6.1 != (-1))) true (x7.2 != 0)) true (x8.2.2 != 0)) true (x9.2 != 0)) true (decide ((x9.1.length:Int)>0))) true (decide (x8.2.1>x7.1))))=true→(!(cond (cond (cond (cond (cond (cond (x6.2 != 0) true (x6.1 != (-1))) true (x7.2 != 0)) true (x8.2.2 != 0)) true (x9.2 != 0)) true (decide ((x9.1.length:Int)>0))) true (decide (x8.2.1>x7.1))))=true),((!(cond (cond (cond (cond (cond (cond (x6.2 != 0) true (x6.1 != (-1))) true (x7.2 != 0)) true (x8.2.2 != 0)) true (x9.2 != 0)) true (decide ((x9.1.length:Int)>0))) true (decide (x8.2.1>x7.1))))=true→(!(cond (cond (cond (cond (cond (cond (x6.2 != 0) true (x6.1 != (-1))) true (x7.2 != 0)) true (x8.2.2 != 0)) true (x9.2 != 0)) true (decide ((x9.1.length:Int)>0))) true (decide (x8.2.1>x7.1))))=true),((!(cond (cond (cond (cond (cond (cond (x6.2 != 0) true (x6.1 != (-1))) true (x7.2 != 0)) true (x8.2.2 != 0)) true (x9.2 != 0)) true (decide ((x9.1.length:Int)>0))) true (decide (x8.2.1>x7.1))))=true→(!(cond (cond (cond (cond (cond (cond (x6.2 != 0) true (x6.1 != (-1))) true (x7.2 != 0)) true (x8.2.2 != 0)) true (x9.2 != 0)) true (decide ((x9.1.length:Int)>0))) true (decide (x8.2.1>x7.1))))=true),((cond (cond (cond (cond (cond (cond (x6.2 != 0) true (x6.1 != (-1))) true (x7.2 != 0)) true (x8.2.2 != 0)) true (x9.2 != 0)) true (decide ((x9.1.length:Int)>0))) true (decide (x8.2.1>x7.1)))=false→(!(cond (cond (cond (cond (cond (cond (x6.2 != 0) true (x6.1 != (-1))) true (x7.2 != 0)) true (x8.2.2 != 0)) true (x9.2 != 0)) true (decide ((x9.1.length:Int)>0))) true (decide (x8.2.1>x7.1))))=true)] (And.intro (id) (And.intro (not_of) (And.intro (id) (And.intro (not_of) (And.intro (id) (And.intro (not_of) (And.intro (id) (And.intro (not_of) (And.intro (id) (And.intro (id) (And.intro (not_of) (And.intro (id) (And.intro (id) (And.intro (not_of) (And.intro (id) (And.intro (id) (And.intro (id) (And.intro (id) (not_of))))))))))))))))))) ?_)
  refine cd h (fun hb10 h=>?_) (fun hb10 h=>?_)
  ·refine GA [(4,vb false)] [cs p_c,.cells [.d (L5 p_x.Shifts),.d (L5 p_x.Off),.d (L78 p_x.High)],cs x5.1] ?_
   obtain rfl:=oi h
   refine WB 3 [(4,vb false)] ?_
   exact awp_ret gm
  ·refine awp_skip ?_
   show awp ..
   refine awp_seq (GA [(7,rf 2),(8,.d (L3 x5.2)),(13,.d (L3 x8.1)),(18,vi 0)] [cs p_c,.cells [.d (L5 p_x.Shifts),.d (L5 p_x.Off),.d (L78 p_x.High)],cs x5.1] ?_)
   refine cuo h (fun (ro11:Bool)=>[(4,vb ro11)]) (fun (ro11:Bool)=>[]) (fun (so11:Unit)=>[]) (fun (so11:Unit)=>[cs p_c,.cells [.d (L5 p_x.Shifts),.d (L5 p_x.Off),.d (L78 p_x.High)],cs x5.1]) (fun o11 h=>?_) (fun ro11 h=>?_) (fun so11 h=>?_)
   ·refine awp_selQ (WA 3 [(7,rf 2),(8,.d (L3 x5.2)),(13,.d (L3 x8.1)),(18,vi 0)] [cs p_c,.cells [.d (L5 p_x.Shifts),.d (L5 p_x.Off),.d (L78 p_x.High)],cs x5.1] ?_)
    refine awp_block (awp_loop (n:=fuel) ?_)
    refine awpN_ind (fun n (c12:Int)=>F10L1 fuel x5 x8 n c12) o11 (fun (c12:Int)=>[(7,rf 2),(8,.d (L3 x5.2)),(13,.d (L3 x8.1)),(18,vi c12)]) (fun (c12:Int)=>[cs p_c,.cells [.d (L5 p_x.Shifts),.d (L5 p_x.Off),.d (L78 p_x.High)],cs x5.1]) (fun _=>rfl) ?_ fuel 0 h
    clear h
    intro n13 c12 h hrn13
    change F10L1 fuel x5 x8 (n13+1) c12=some o11 at h
    rw [F10L1] at h
    refine awp_seq (GA [(7,rf 2),(8,.d (L3 x5.2)),(13,.d (L3 x8.1)),(18,vi c12),(101,vb (decide (c12<(x5.2.length:Int))))] [cs p_c,.cells [.d (L5 p_x.Shifts),.d (L5 p_x.Off),.d (L78 p_x.High)],cs x5.1] ?_)
    refine cd h (fun hb14 h=>?_) (fun hb14 h=>?_)
    ·refine awp_skip ?_
     show awp ..
     refine awp_seq (awp_block ?_)
     obtain ⟨x15,hx15,h⟩:=ob h
     refine GB [.no,.no,.call [(ca x5.1),(di c12)] (.tup [.d (.agg [(di x15.1.Lo),(di x15.1.Hi)]),vi x15.2])] [(7,rf 2),(8,.d (L3 x5.2)),(13,.d (L3 x8.1)),(18,vi c12),(19,rf 3),(20,vi x15.2)] [cs p_c,.cells [.d (L5 p_x.Shifts),.d (L5 p_x.Off),.d (L78 p_x.High)],cs x5.1,.cells [vi x15.1.Lo,vi x15.1.Hi]] [PCall Try.prog 25 [(ca x5.1),(di c12)] (.tup [.d (.agg [(di x15.1.Lo),(di x15.1.Hi)]),vi x15.2])] (ct25 hx15) ?_
     obtain ⟨x16,hx16,h⟩:=ob h
     obtain ⟨x17,hx17,h⟩:=ob h
     obtain ⟨x18,hx18,h⟩:=ob h
     obtain ⟨x19,hx19,h⟩:=ob h
     refine hd [7,8,13,18,147] [.no,.no,.no,.no,.no,.cells (cel3 x16),.no,.no,.no,.no,.no,.no,.no,.no,.cells (cel3 x17),.no,.no,.no,.no,.no,.no,.no,.no,.cells (cel3 x18),.no,.no,.no,.no,.no,.no,.no,.no,.cells (cel3 x19)] 36 [7,8,13,18,139,143,145,146,147] [(7,rf 2),(8,.d (L3 x5.2)),(13,.d (L3 x8.1)),(18,vi c12),(147,vb (cond (cond (cond (cond (x15.2 != 0) true (decide (x16<x15.1.Lo))) true (decide (x17>x15.1.Hi))) true (decide (x18<x15.1.Lo))) true (decide (x19>x15.1.Hi))))] [((!(x15.2 != 0))=true→(!(x15.2 != 0))=true),((!(x15.2 != 0))=true→(!(x15.2 != 0))=true),((!(x15.2 != 0))=true→IX3 x5.2 c12 x16),((!(x15.2 != 0))=true→(!(x15.2 != 0))=true),((!(x15.2 != 0))=true→(!(x15.2 != 0))=true),((!(x15.2 != 0))=true→(!(x15.2 != 0))=true),((!(x15.2 != 0))=true→(!(x15.2 != 0))=true),((x15.2 != 0)=false→(!(x15.2 != 0))=true),((!(cond (x15.2 != 0) true (decide (x16<x15.1.Lo))))=true→(!(cond (x15.2 != 0) true (decide (x16<x15.1.Lo))))=true),((!(cond (x15.2 != 0) true (decide (x16<x15.1.Lo))))=true→(!(cond (x15.2 != 0) true (decide (x16<x15.1.Lo))))=true),((!(cond (x15.2 != 0) true (decide (x16<x15.1.Lo))))=true→IX3 x5.2 c12 x17),((!(cond (x15.2 != 0) true (decide (x16<x15.1.Lo))))=true→(!(cond (x15.2 != 0) true (decide (x16<x15.1.Lo))))=true),((!(cond (x15.2 != 0) true (decide (x16<x15.1.Lo))))=true→(!(cond (x15.2 != 0) true (decide (x16<x15.1.Lo))))=true),((!(cond (x15.2 != 0) true (decide (x16<x15.1.Lo))))=true→(!(cond (x15.2 != 0) true (decide (x16<x15.1.Lo))))=true),((!(cond (x15.2 != 0) true (decide (x16<x15.1.Lo))))=true→(!(cond (x15.2 != 0) true (decide (x16<x15.1.Lo))))=true),((cond (x15.2 != 0) true (decide (x16<x15.1.Lo)))=false→(!(cond (x15.2 != 0) true (decide (x16<x15.1.Lo))))=true),((!(cond (cond (x15.2 != 0) true (decide (x16<x15.1.Lo))) true (decide (x17>x15.1.Hi))))=true→(!(cond (cond (x15.2 != 0) true (decide (x16<x15.1.Lo))) true (decide (x17>x15.1.Hi))))=true),((!(cond (cond (x15.2 != 0) true (decide (x16<x15.1.Lo))) true (decide (x17>x15.1.Hi))))=true→(!(cond (cond (x15.2 != 0) true (decide (x16<x15.1.Lo))) true (decide (x17>x15.1.Hi))))=true),((!(cond (cond (x15.2 != 0) true (decide (x16<x15.1.Lo))) true (decide (x17>x15.1.Hi))))=true→IX3 x8.1 c12 x18),((!(cond (cond (x15.2 != 0) true (decide (x16<x15.1.Lo))) true (decide (x17>x15.1.Hi))))=true→(!(cond (cond (x15.2 != 0) true (decide (x16<x15.1.Lo))) true (decide (x17>x15.1.Hi))))=true),((!(cond (cond (x15.2 != 0) true (decide (x16<x15.1.Lo))) true (decide (x17>x15.1.Hi))))=true→(!(cond (cond (x15.2 != 0) true (decide (x16<x15.1.Lo))) true (decide (x17>x15.1.Hi))))=true),((!(cond (cond (x15.2 != 0) true (decide (x16<x15.1.Lo))) true (decide (x17>x15.1.Hi))))=true→(!(cond (cond (x15.2 != 0) true (decide (x16<x15.1.Lo))) true (decide (x17>x15.1.Hi))))=true),((!(cond (cond (x15.2 != 0) true (decide (x16<x15.1.Lo))) true (decide (x17>x15.1.Hi))))=true→(!(cond (cond (x15.2 != 0) true (decide (x16<x15.1.Lo))) true (decide (x17>x15.1.Hi))))=true),((cond (cond (x15.2 != 0) true (decide (x16<x15.1.Lo))) true (decide (x17>x15.1.Hi)))=false→(!(cond (cond (x15.2 != 0) true (decide (x16<x15.1.Lo))) true (decide (x17>x15.1.Hi))))=true),((!(cond (cond (cond (x15.2 != 0) true (decide (x16<x15.1.Lo))) true (decide (x17>x15.1.Hi))) true (decide (x18<x15.1.Lo))))=true→(!(cond (cond (cond (x15.2 != 0) true (decide (x16<x15.1.Lo))) true (decide (x17>x15.1.Hi))) true (decide (x18<x15.1.Lo))))=true),((!(cond (cond (cond (x15.2 != 0) true (decide (x16<x15.1.Lo))) true (decide (x17>x15.1.Hi))) true (decide (x18<x15.1.Lo))))=true→(!(cond (cond (cond (x15.2 != 0) true (decide (x16<x15.1.Lo))) true (decide (x17>x15.1.Hi))) true (decide (x18<x15.1.Lo))))=true),((!(cond (cond (cond (x15.2 != 0) true (decide (x16<x15.1.Lo))) true (decide (x17>x15.1.Hi))) true (decide (x18<x15.1.Lo))))=true→IX3 x8.1 c12 x19),((!(cond (cond (cond (x15.2 != 0) true (decide (x16<x15.1.Lo))) true (decide (x17>x15.1.Hi))) true (decide (x18<x15.1.Lo))))=true→(!(cond (cond (cond (x15.2 != 0) true (decide (x16<x15.1.Lo))) true (decide (x17>x15.1.Hi))) true (decide (x18<x15.1.Lo))))=true),((!(cond (cond (cond (x15.2 != 0) true (decide (x16<x15.1.Lo))) true (decide (x17>x15.1.Hi))) true (decide (x18<x15.1.Lo))))=true→(!(cond (cond (cond (x15.2 != 0) true (decide (x16<x15.1.Lo))) true (decide (x17>x15.1.Hi))) true (decide (x18<x15.1.Lo))))=true),((!(cond (cond (cond (x15.2 != 0) true (decide (x16<x15.1.Lo))) true (decide (x17>x15.1.Hi))) true (decide (x18<x15.1.Lo))))=true→(!(cond (cond (cond (x15.2 != 0) true (decide (x16<x15.1.Lo))) true (decide (x17>x15.1.Hi))) true (decide (x18<x15.1.Lo))))=true),((!(cond (cond (cond (x15.2 != 0) true (decide (x16<x15.1.Lo))) true (decide (x17>x15.1.Hi))) true (decide (x18<x15.1.Lo))))=true→(!(cond (cond (cond (x15.2 != 0) true (decide (x16<x15.1.Lo))) true (decide (x17>x15.1.Hi))) true (decide (x18<x15.1.Lo))))=true),((cond (cond (cond (x15.2 != 0) true (decide (x16<x15.1.Lo))) true (decide (x17>x15.1.Hi))) true (decide (x18<x15.1.Lo)))=false→(!(cond (cond (cond (x15.2 != 0) true (decide (x16<x15.1.Lo))) true (decide (x17>x15.1.Hi))) true (decide (x18<x15.1.Lo))))=true)] (And.intro (id) (And.intro (id) (And.intro ((fun hg=>idxOk cel3_len (optG_of hx16 hg))) (And.intro (id) (And.intro (id) (And.intro (id) (And.intro (id) (And.intro (not_of) (And.intro (id) (And.intro (id) (And.intro ((fun hg=>idxOk cel3_len (optG_of hx17 hg))) (And.intro (id) (And.intro (id) (And.intro (id) (And.intro (id) (And.intro (not_of) (And.intro (id) (And.intro (id) (And.intro ((fun hg=>idxOk cel3_len (optG_of hx18 hg))) (And.intro (id) (And.intro (id) (And.intro (id) (And.intro (id) (And.intro (not_of) (And.intro (id) (And.intro (id) (And.intro ((fun hg=>idxOk cel3_len (optG_of hx19 hg))) (And.intro (id) (And.intro (id) (And.intro (id) (And.intro (id) (not_of)))))))))))))))))))))))))))))))) ?_
     refine cd h (fun hb20 h=>?_) (fun hb20 h=>?_)
     ·refine GA [(4,vb false)] [cs p_c,.cells [.d (L5 p_x.Shifts),.d (L5 p_x.Off),.d (L78 p_x.High)],cs x5.1,.cells [vi x15.1.Lo,vi x15.1.Hi]] ?_
      obtain rfl:=oi h
      refine WB 4 [(4,vb false)] ?_
      exact awp_ret (gs [] [4] OutQ.ret)
     ·refine awp_skip ?_
      show awp ..
      refine XA [(7,rf 2),(8,.d (L3 x5.2)),(13,.d (L3 x8.1)),(18,vi (w64 (c12+1)))] [cs p_c,.cells [.d (L5 p_x.Shifts),.d (L5 p_x.Off),.d (L78 p_x.High)],cs x5.1,.cells [vi x15.1.Lo,vi x15.1.Hi]] ?_
      exact gn 3 [7,8,13,18] (hrn13 _ h)
    ·refine awp_exit ?_
     obtain rfl:=oi h
     exact gs [0,1,2] [] OutQ.norm
   ·obtain rfl:=oi h
    exact gm
   ·show awp ..
    obtain ⟨x21,hx21,h⟩:=ob h
    refine GB [.call [] (vb x21)] [(4,vb x21)] [cs p_c,.cells [.d (L5 p_x.Shifts),.d (L5 p_x.Off),.d (L78 p_x.High)],cs x5.1] [PCall Try.prog 24 [] (vb x21)] (ct24 hx21) ?_
    obtain rfl:=oi h
    refine WB 3 [(4,vb x21)] ?_
    exact awp_ret gm
end Go.Proofs.Ytallnifoeahpiaa
