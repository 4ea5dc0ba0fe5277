/- That functions of the seat compute this. Printed by a program of mine. -/
import Derived.Test.YtallnifoeahpiaaS
import Derived.Test.YtallnifoeahpiaaCRB
import Derived.Test.YtallnifoeahpiaaDRF
namespace Go.Proofs.Ytallnifoeahpiaa
open Go Go.Sx
set_option maxRecDepth 100000
set_option linter.unusedVariables false
theorem ct87 {fuel:Nat}  {p_c:S_api_EdCase} {l:(List Int)} {res:Bool} (h:F87 fuel p_c l=some res):PCall Try.prog 87 [(ca p_c),(L3 l)] (vb res):=by
 refine PCall.of_awp tt_ok (N:=46) Try.func87 rfl (by kernel_rfl) rfl (Nat.le_of_ble_eq_true rfl) rfl ?_
 unfold F87 at h
 refine GA [(1,.d (L3 l)),(2,rf 0)] [cs p_c] ?_
 refine HA [(1,.d (L3 l)),(2,rf 0),(5,vi (w64 ((l.length:Int)-1)))] ?_
 refine awp_seq (HA [(1,.d (L3 l)),(2,rf 0),(5,vi (w64 ((l.length:Int)-1))),(6,vi 0)] ?_)
 refine cuo h (fun (ro1:Bool)=>[(4,vb ro1)]) (fun (ro1:Bool)=>[]) (fun (so1:Unit)=>[]) (fun (so1:Unit)=>[cs p_c]) (fun o1 h=>?_) (fun ro1 h=>?_) (fun so1 h=>?_)
 ·refine awp_selQ (WA 1 [(1,.d (L3 l)),(2,rf 0),(5,vi (w64 ((l.length:Int)-1))),(6,vi 0)] [cs p_c] ?_)
  refine awp_block (awp_loop (n:=fuel) ?_)
  refine awpN_ind (fun n (c2:Int)=>F87L1 fuel p_c l n c2) o1 (fun (c2:Int)=>[(1,.d (L3 l)),(2,rf 0),(5,vi (w64 ((l.length:Int)-1))),(6,vi c2)]) (fun (c2:Int)=>[cs p_c]) (fun _=>rfl) ?_ fuel 0 h
  clear h
  intro n3 c2 h hrn3
  change F87L1 fuel p_c l (n3+1) c2=some o1 at h
  rw [F87L1] at h
  refine awp_seq (GA [(1,.d (L3 l)),(2,rf 0),(5,vi (w64 ((l.length:Int)-1))),(6,vi c2),(15,vb (decide (c2<(p_c.Edges.length:Int))))] [cs p_c] ?_)
  refine cd h (fun hb4 h=>?_) (fun hb4 h=>?_)
  ·refine awp_skip ?_
   show awp ..
   refine awp_seq (awp_block ?_)
   obtain ⟨x5,hx5,h⟩:=ob h
   refine GB [.no,.no,.no,.cells (cel71 x5)] [(1,.d (L3 l)),(2,rf 0),(5,vi (w64 ((l.length:Int)-1))),(6,vi c2),(7,rf 1)] [cs p_c,.cells [vi x5.A,vi x5.B,.d (L74 x5.Points)]] [IX71 p_c.Edges c2 x5] (idxOk cel71_len hx5) ?_
   obtain ⟨x6,hx6,h⟩:=ob h
   obtain ⟨x7,hx7,h⟩:=ob h
   obtain ⟨x8,hx8,h⟩:=ob h
   refine hd [1,2,5,6,45] [.no,.no,.no,.no,.no,.no,.no,.no,.no,.no,.no,.no,.no,.cells (cel3 x6),.no,.no,.no,.no,.cells (cel3 x7),.no,.call [(ca p_c),(.agg [(di x5.A),(di x5.B),(L74 x5.Points)]),(di x6),(di x7)] (vb x8)] 20 [1,2,5,6,30,31,32,37,42,43,44,45] [(1,.d (L3 l)),(2,rf 0),(5,vi (w64 ((l.length:Int)-1))),(6,vi c2),(45,vb (cond ((if x5.B>x5.A then x5.B else x5.A)==(w64 ((l.length:Int)-1))) (!x8) false))] [(((if x5.B>x5.A then x5.B else x5.A)==(w64 ((l.length:Int)-1)))=true→((if x5.B>x5.A then x5.B else x5.A)==(w64 ((l.length:Int)-1)))=true),(((if x5.B>x5.A then x5.B else x5.A)==(w64 ((l.length:Int)-1)))=true→((if x5.B>x5.A then x5.B else x5.A)==(w64 ((l.length:Int)-1)))=true),(((if x5.B>x5.A then x5.B else x5.A)==(w64 ((l.length:Int)-1)))=true→((if x5.B>x5.A then x5.B else x5.A)==(w64 ((l.length:Int)-1)))=true),(((if x5.B>x5.A then x5.B else x5.A)==(w64 ((l.length:Int)-1)))=true→IX3 l x5.A x6),(((if x5.B>x5.A then x5.B else x5.A)==(w64 ((l.length:Int)-1)))=true→((if x5.B>x5.A then x5.B else x5.A)==(w64 ((l.length:Int)-1)))=true),(((if x5.B>x5.A then x5.B else x5.A)==(w64 ((l.length:Int)-1)))=true→((if x5.B>x5.A then x5.B else x5.A)==(w64 ((l.length:Int)-1)))=true),(((if x5.B>x5.A then x5.B else x5.A)==(w64 ((l.length:Int)-1)))=true→((if x5.B>x5.A then x5.B else x5.A)==(w64 ((l.length:Int)-1)))=true),(((if x5.B>x5.A then x5.B else x5.A)==(w64 ((l.length:Int)-1)))=true→((if x5.B>x5.A then x5.B else x5.A)==(w64 ((l.length:Int)-1)))=true),(((if x5.B>x5.A then x5.B else x5.A)==(w64 ((l.length:Int)-1)))=true→IX3 l x5.B x7),(((if x5.B>x5.A then x5.B else x5.A)==(w64 ((l.length:Int)-1)))=true→((if x5.B>x5.A then x5.B else x5.A)==(w64 ((l.length:Int)-1)))=true),(((if x5.B>x5.A then x5.B else x5.A)==(w64 ((l.length:Int)-1)))=true→((if x5.B>x5.A then x5.B else x5.A)==(w64 ((l.length:Int)-1)))=true),(((if x5.B>x5.A then x5.B else x5.A)==(w64 ((l.length:Int)-1)))=true→((if x5.B>x5.A then x5.B else x5.A)==(w64 ((l.length:Int)-1)))=true),(((if x5.B>x5.A then x5.B else x5.A)==(w64 ((l.length:Int)-1)))=true→((if x5.B>x5.A then x5.B else x5.A)==(w64 ((l.length:Int)-1)))=true),(((if x5.B>x5.A then x5.B else x5.A)==(w64 ((l.length:Int)-1)))=true→((if x5.B>x5.A then x5.B else x5.A)==(w64 ((l.length:Int)-1)))=true),(((if x5.B>x5.A then x5.B else x5.A)==(w64 ((l.length:Int)-1)))=true→PCall Try.prog 85 [(ca p_c),(.agg [(di x5.A),(di x5.B),(L74 x5.Points)]),(di x6),(di x7)] (vb x8)),(((if x5.B>x5.A then x5.B else x5.A)==(w64 ((l.length:Int)-1)))=true→((if x5.B>x5.A then x5.B else x5.A)==(w64 ((l.length:Int)-1)))=true),(((if x5.B>x5.A then x5.B else x5.A)==(w64 ((l.length:Int)-1)))=true→((if x5.B>x5.A then x5.B else x5.A)==(w64 ((l.length:Int)-1)))=true)] (And.intro (id) (And.intro (id) (And.intro (id) (And.intro ((fun hg=>idxOk cel3_len (optG_of hx6 hg))) (And.intro (id) (And.intro (id) (And.intro (id) (And.intro (id) (And.intro ((fun hg=>idxOk cel3_len (optG_of hx7 hg))) (And.intro (id) (And.intro (id) (And.intro (id) (And.intro (id) (And.intro (id) (And.intro ((fun hg=>ct85 (optG_of hx8 hg))) (And.intro (id) (id))))))))))))))))) ?_
   refine cd h (fun hb9 h=>?_) (fun hb9 h=>?_)
   ·refine GA [(4,vb false)] [cs p_c,.cells [vi x5.A,vi x5.B,.d (L74 x5.Points)]] ?_
    obtain rfl:=oi h
    refine WB 2 [(4,vb false)] ?_
    exact awp_ret (gs [] [4] OutQ.ret)
   ·refine awp_skip ?_
    show awp ..
    refine XA [(1,.d (L3 l)),(2,rf 0),(5,vi (w64 ((l.length:Int)-1))),(6,vi (w64 (c2+1)))] [cs p_c,.cells [vi x5.A,vi x5.B,.d (L74 x5.Points)]] ?_
    exact gn 1 [1,2,5,6] (hrn3 _ h)
  ·refine awp_exit ?_
   obtain rfl:=oi h
   exact gs [0] [] OutQ.norm
 ·obtain rfl:=oi h
  exact gm
 ·show awp ..
  refine GA [(4,vb true)] [cs p_c] ?_
  obtain rfl:=oi h
  refine WB 1 [(4,vb true)] ?_
  exact awp_ret gm
end Go.Proofs.Ytallnifoeahpiaa
