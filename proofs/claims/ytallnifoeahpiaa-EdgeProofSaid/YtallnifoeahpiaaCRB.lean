/- That functions of the seat compute this. Printed by a program of mine. -/
import Derived.Test.YtallnifoeahpiaaS
import Derived.Test.YtallnifoeahpiaaCRA
import Derived.Test.YtallnifoeahpiaaDRB
namespace Go.Proofs.Ytallnifoeahpiaa
open Go Go.Sx
set_option maxRecDepth 100000
set_option linter.unusedVariables false
theorem ct61 {fuel:Nat}  {p_c:S_api_EdCase} {l:(List Int)} {res:Int} (h:F61 fuel p_c l=some res):PCall Try.prog 61 [(ca p_c),(L3 l)] (vi res):=by
 refine PCall.of_awp tt_ok (N:=55) Try.func61 rfl (by kernel_rfl) rfl (Nat.le_of_ble_eq_true rfl) rfl ?_
 unfold F61 at h
 let q1:Nat×V:=(1,.d (L3 l))
 refine GA [q1,(2,rf 0)] [cs p_c] ?_
 obtain ⟨x1,hx1,h⟩:=ob h
 refine HB [.no,.call [(ca p_c)] (.tup [vi x1.1,vi x1.2.1,vi x1.2.2])] [q1,(2,rf 0),(7,vi x1.2.2)] [PCall Try.prog 17 [(ca p_c)] (.tup [vi x1.1,vi x1.2.1,vi x1.2.2])] (ct17 hx1) ?_
 refine awp_seq (HB [] [q1,(2,rf 0),(7,vi x1.2.2),(24,vb (cond (x1.2.2==0) ((l.length:Int) != (p_c.Sheets.length:Int)) false))] [((x1.2.2==0)=true→(x1.2.2==0)=true),((x1.2.2==0)=true→(x1.2.2==0)=true),((x1.2.2==0)=true→(x1.2.2==0)=true),((x1.2.2==0)=true→(x1.2.2==0)=true),((x1.2.2==0)=true→(x1.2.2==0)=true),((x1.2.2==0)=true→(x1.2.2==0)=true)] (And.intro (id) (And.intro (id) (And.intro (id) (And.intro (id) (And.intro (id) (id)))))) ?_)
 refine cuo h (fun (ro2:Int)=>[(4,vi ro2)]) (fun (ro2:Int)=>[]) (fun (so2:Int)=>[q1,(2,rf 0),(7,vi so2)]) (fun (so2:Int)=>[cs p_c]) (fun o2 h=>?_) (fun ro2 h=>?_) (fun so2 h=>?_)
 ·refine awp_selQ (cd h (fun hb3 h=>?_) (fun hb3 h=>?_))
  ·refine XA [q1,(2,rf 0),(7,vi 3)] [cs p_c] ?_
   obtain rfl:=oi h
   exact gs [0] [1,2,7] OutQ.norm
  ·refine awp_skip ?_
   obtain rfl:=oi h
   exact gs [0] [1,2,7] OutQ.norm
 ·obtain rfl:=oi h
  exact gm
 ·show awp ..
  refine awp_seq (GA [q1,(2,rf 0),(7,vi so2),(8,vi 0)] [cs p_c] ?_)
  refine cuo h (fun (ro4:Int)=>[(4,vi ro4)]) (fun (ro4:Int)=>[]) (fun (so4:Int)=>[(7,vi so4)]) (fun (so4:Int)=>[cs p_c]) (fun o4 h=>?_) (fun ro4 h=>?_) (fun so4 h=>?_)
  ·refine awp_selQ (WA 1 [q1,(2,rf 0),(7,vi so2),(8,vi 0)] [cs p_c] ?_)
   refine awp_block (awp_loop (n:=fuel) ?_)
   refine awpN_ind (fun n (c5:Int×Int)=>F61L1 p_c l n c5) o4 (fun (c5:Int×Int)=>[q1,(2,rf 0),(7,vi c5.1),(8,vi c5.2)]) (fun (c5:Int×Int)=>[cs p_c]) (fun _=>rfl) ?_ fuel (so2,0) h
   clear h
   intro n6 c5 h hrn6
   change F61L1 p_c l (n6+1) c5=some o4 at h
   rw [F61L1] at h
   let q2:=(decide (c5.2<(l.length:Int)))
   refine awp_seq (GB [] [q1,(2,rf 0),(7,vi c5.1),(8,vi c5.2),(32,vb (cond q2 (c5.1==0) false))] [cs p_c] [(q2=true→q2=true),(q2=true→q2=true)] (And.intro (id) (id)) ?_)
   refine cd h (fun hb7 h=>?_) (fun hb7 h=>?_)
   ·refine awp_skip ?_
    show awp ..
    refine awp_seq (awp_block ?_)
    obtain ⟨x8,hx8,h⟩:=ob h
    obtain ⟨x9,hx9,h⟩:=ob h
    obtain ⟨x10,hx10,h⟩:=ob h
    obtain ⟨x11,hx11,h⟩:=ob h
    refine sd [1,2,7,8,53] [.no,.no,.cells (cel3 x8),.no,.no,.no,.no,.cells (cel66 x9),.no,.no,.no,.no,.no,.no,.cells (cel66 x10),.no,.no,.call [(di x8),(di (w64 (0-x9.Most))),(di x10.Most)] (vb x11)] 17 [1,2,7,8,38,45,51,52,53] [q1,(2,rf 0),(7,vi c5.1),(8,vi c5.2),(53,vb (!x11))] [cs p_c] [IX3 l c5.2 x8,IX66 p_c.Sheets c5.2 x9,IX66 p_c.Sheets c5.2 x10,PCall Try.prog 54 [(di x8),(di (w64 (0-x9.Most))),(di x10.Most)] (vb x11)] (And.intro (idxOk cel3_len hx8) (And.intro (idxOk cel66_len hx9) (And.intro (idxOk cel66_len hx10) (ct54 hx11)))) ?_
    refine cd h (fun hb12 h=>?_) (fun hb12 h=>?_)
    ·refine XA [q1,(2,rf 0),(7,vi 7),(8,vi c5.2)] [cs p_c] ?_
     show awp ..
     refine YA [q1,(2,rf 0),(7,vi 7),(8,vi (w64 (c5.2+1)))] ?_
     exact gn 1 [1,2,7,8] (hrn6 _ h)
    ·refine awp_skip ?_
     show awp ..
     refine XA [q1,(2,rf 0),(7,vi c5.1),(8,vi (w64 (c5.2+1)))] [cs p_c] ?_
     exact gn 1 [1,2,7,8] (hrn6 _ h)
   ·refine awp_exit ?_
    obtain rfl:=oi h
    exact gs [0] [7] OutQ.norm
  ·obtain rfl:=oi h
   exact gm
  ·show awp ..
   refine GA [(4,vi so4)] [cs p_c] ?_
   obtain rfl:=oi h
   refine WB 1 [(4,vi so4)] ?_
   exact awp_ret gm
theorem ct71  {p_n:Int} {res:Int} (h:F71 p_n=some res):PCall Try.prog 71 [(di p_n)] (vi res):=by
 refine PCall.of_awp tt_ok (N:=7) Try.func71 rfl (by kernel_rfl) rfl (Nat.le_of_ble_eq_true rfl) rfl ?_
 unfold F71 at h
 refine GA [(0,vi p_n)] [] ?_
 refine HA [(2,vi (if (w64 (0-p_n))>p_n then (w64 (0-p_n)) else p_n))] ?_
 obtain rfl:=oi h
 refine WB 0 [(2,vi (if (w64 (0-p_n))>p_n then (w64 (0-p_n)) else p_n))] ?_
 exact awp_ret gm
theorem ct85 {fuel:Nat}  {p_c:S_api_EdCase} {p_x:S_api_EdEdge} {p_a:Int} {p_b:Int} {res:Bool} (h:F85 fuel p_c p_x p_a p_b=some res):PCall Try.prog 85 [(ca p_c),(.agg [(di p_x.A),(di p_x.B),(L74 p_x.Points)]),(di p_a),(di p_b)] (vb res):=by
 refine PCall.of_awp tt_ok (N:=38) Try.func85 rfl (by kernel_rfl) rfl (Nat.le_of_ble_eq_true rfl) rfl ?_
 unfold F85 at h
 let q2:O:=.cells [vi p_x.A,vi p_x.B,.d (L74 p_x.Points)]
 let q1:List O:=[cs p_c,q2]
 refine GA [(2,vi p_a),(3,vi p_b),(4,rf 0),(5,rf 1)] q1 ?_
 refine awp_seq (HA [(2,vi p_a),(3,vi p_b),(4,rf 0),(5,rf 1),(9,vi 0)] ?_)
 refine cuo h (fun (ro1:Bool)=>[(8,vb ro1)]) (fun (ro1:Bool)=>[]) (fun (so1:Unit)=>[]) (fun (so1:Unit)=>[cs p_c,q2]) (fun o1 h=>?_) (fun ro1 h=>?_) (fun so1 h=>?_)
 ·refine awp_selQ (WA 2 [(2,vi p_a),(3,vi p_b),(4,rf 0),(5,rf 1),(9,vi 0)] q1 ?_)
  refine awp_block (awp_loop (n:=fuel) ?_)
  refine awpN_ind (fun n (c2:Int)=>F85L1 p_c p_x p_a p_b n c2) o1 (fun (c2:Int)=>[(2,vi p_a),(3,vi p_b),(4,rf 0),(5,rf 1),(9,vi c2)]) (fun (c2:Int)=>[cs p_c,q2]) (fun _=>rfl) ?_ fuel 0 h
  clear h
  intro n3 c2 h hrn3
  change F85L1 p_c p_x p_a p_b (n3+1) c2=some o1 at h
  rw [F85L1] at h
  refine awp_seq (GA [(2,vi p_a),(3,vi p_b),(4,rf 0),(5,rf 1),(9,vi c2),(14,vb (decide (c2<(p_x.Points.length:Int))))] q1 ?_)
  refine cd h (fun hb4 h=>?_) (fun hb4 h=>?_)
  ·refine awp_skip ?_
   show awp ..
   refine awp_seq (awp_block ?_)
   obtain ⟨x5,hx5,h⟩:=ob h
   obtain ⟨x6,hx6,h⟩:=ob h
   obtain ⟨x7,hx7,h⟩:=ob h
   refine sd [2,3,4,5,9,37] [.no,.no,.no,.cells (cel74 x5),.no,.no,.no,.no,.no,.no,.no,.cells (cel74 x6),.no,.no,.no,.no,.no,.call [(di (w64 ((w64 ((w64 (x5.A+p_a))-x6.B))-p_b)))] (vi x7)] 20 [2,3,4,5,9,34,36,37] [(2,vi p_a),(3,vi p_b),(4,rf 0),(5,rf 1),(9,vi c2),(37,vb (decide (x7>p_c.Tol)))] q1 [IX74 p_x.Points c2 x5,IX74 p_x.Points c2 x6,PCall Try.prog 71 [(di (w64 ((w64 ((w64 (x5.A+p_a))-x6.B))-p_b)))] (vi x7)] (And.intro (idxOk cel74_len hx5) (And.intro (idxOk cel74_len hx6) (ct71 hx7))) ?_
   refine cd h (fun hb8 h=>?_) (fun hb8 h=>?_)
   ·refine GA [(8,vb false)] q1 ?_
    obtain rfl:=oi h
    refine WB 2 [(8,vb false)] ?_
    exact awp_ret (gs [] [8] OutQ.ret)
   ·refine awp_skip ?_
    show awp ..
    refine XA [(2,vi p_a),(3,vi p_b),(4,rf 0),(5,rf 1),(9,vi (w64 (c2+1)))] q1 ?_
    exact gn 2 [2,3,4,5,9] (hrn3 _ h)
  ·refine awp_exit ?_
   obtain rfl:=oi h
   exact gs [0,1] [] OutQ.norm
 ·obtain rfl:=oi h
  exact gm
 ·show awp ..
  refine GA [(8,vb true)] q1 ?_
  obtain rfl:=oi h
  refine WB 2 [(8,vb true)] ?_
  exact awp_ret gm
theorem ct62 {fuel:Nat}  {p_c:S_api_EdCase} {l:(List Int)} {res:Int} (h:F62 fuel p_c l=some res):PCall Try.prog 62 [(ca p_c),(L3 l)] (vi res):=by
 refine PCall.of_awp tt_ok (N:=34) Try.func62 rfl (by kernel_rfl) rfl (Nat.le_of_ble_eq_true rfl) rfl ?_
 unfold F62 at h
 let q2:Nat×V:=(1,.d (L3 l))
 refine GA [q2,(2,rf 0)] [cs p_c] ?_
 refine awp_seq (HA [q2,(2,rf 0),(5,vi 0)] ?_)
 refine cuo h (fun (ro1:Int)=>[(4,vi ro1)]) (fun (ro1:Int)=>[]) (fun (so1:Unit)=>[]) (fun (so1:Unit)=>[cs p_c]) (fun o1 h=>?_) (fun ro1 h=>?_) (fun so1 h=>?_)
 ·refine awp_selQ (WA 1 [q2,(2,rf 0),(5,vi 0)] [cs p_c] ?_)
  refine awp_block (awp_loop (n:=fuel) ?_)
  refine awpN_ind (fun n (c2:Int)=>F62L1 fuel p_c l n c2) o1 (fun (c2:Int)=>[q2,(2,rf 0),(5,vi c2)]) (fun (c2:Int)=>[cs p_c]) (fun _=>rfl) ?_ fuel 0 h
  clear h
  intro n3 c2 h hrn3
  change F62L1 fuel p_c l (n3+1) c2=some o1 at h
  rw [F62L1] at h
  refine awp_seq (GA [q2,(2,rf 0),(5,vi c2),(11,vb (decide (c2<(p_c.Edges.length:Int))))] [cs p_c] ?_)
  refine cd h (fun hb4 h=>?_) (fun hb4 h=>?_)
  ·refine awp_skip ?_
   show awp ..
   refine awp_seq (awp_block ?_)
   obtain ⟨x5,hx5,h⟩:=ob h
   let q1:List O:=[cs p_c,.cells [vi x5.A,vi x5.B,.d (L74 x5.Points)]]
   refine GB [.no,.no,.no,.cells (cel71 x5)] [q2,(2,rf 0),(5,vi c2),(6,rf 1)] q1 [IX71 p_c.Edges c2 x5] (idxOk cel71_len hx5) ?_
   obtain ⟨x6,hx6,h⟩:=ob h
   obtain ⟨x7,hx7,h⟩:=ob h
   obtain ⟨x8,hx8,h⟩:=ob h
   refine hd [1,2,5,32] [.no,.no,.no,.no,.no,.cells (cel3 x6),.no,.no,.no,.no,.cells (cel3 x7),.no,.call [(ca p_c),(.agg [(di x5.A),(di x5.B),(L74 x5.Points)]),(di x6),(di x7)] (vb x8)] 12 [1,2,5,19,20,25,30,31,32] [q2,(2,rf 0),(5,vi c2),(32,vb (!x8))] [IX3 l x5.A x6,IX3 l x5.B x7,PCall Try.prog 85 [(ca p_c),(.agg [(di x5.A),(di x5.B),(L74 x5.Points)]),(di x6),(di x7)] (vb x8)] (And.intro (idxOk cel3_len hx6) (And.intro (idxOk cel3_len hx7) (ct85 hx8))) ?_
   refine cd h (fun hb9 h=>?_) (fun hb9 h=>?_)
   ·refine GA [(4,vi c2)] q1 ?_
    obtain rfl:=oi h
    refine WB 2 [(4,vi c2)] ?_
    exact awp_ret (gs [] [4] OutQ.ret)
   ·refine awp_skip ?_
    show awp ..
    refine XA [q2,(2,rf 0),(5,vi (w64 (c2+1)))] q1 ?_
    exact gn 1 [1,2,5] (hrn3 _ h)
  ·refine awp_exit ?_
   obtain rfl:=oi h
   exact gs [0] [] OutQ.norm
 ·obtain rfl:=oi h
  exact gm
 ·show awp ..
  refine GA [(4,vi (-1))] [cs p_c] ?_
  obtain rfl:=oi h
  refine WB 1 [(4,vi (-1))] ?_
  exact awp_ret gm
theorem ct21 {fuel:Nat}  {p_c:S_api_EdCase} {l:(List Int)} {res:Int×Int} (h:F21 fuel p_c l=some res):PCall Try.prog 21 [(ca p_c),(L3 l)] (.tup [vi res.1,vi res.2]):=by
 refine PCall.of_awp tt_ok (N:=16) Try.func21 rfl (by kernel_rfl) rfl (Nat.le_of_ble_eq_true rfl) rfl ?_
 unfold F21 at h
 refine GA [(1,.d (L3 l)),(2,rf 0)] [cs p_c] ?_
 obtain ⟨x1,hx1,h⟩:=ob h
 refine HB [.no,.no,.call [(ca p_c),(L3 l)] (vi x1)] [(1,.d (L3 l)),(2,rf 0),(6,vi x1)] [PCall Try.prog 61 [(ca p_c),(L3 l)] (vi x1)] (ct61 hx1) ?_
 refine awp_seq (HA [(1,.d (L3 l)),(2,rf 0),(6,vi x1),(11,vb (x1 != 0))] ?_)
 refine cd h (fun hb2 h=>?_) (fun hb2 h=>?_)
 ·refine GA [(4,vi 0),(5,vi x1)] [cs p_c] ?_
  obtain rfl:=oi h
  refine WB 1 [(4,vi 0),(5,vi x1)] ?_
  exact awp_ret gm
 ·refine awp_skip ?_
  show awp ..
  obtain ⟨x3,hx3,h⟩:=ob h
  refine GB [.no,.no,.call [(ca p_c),(L3 l)] (vi x3)] [(4,vi x3),(5,vi 0)] [cs p_c] [PCall Try.prog 62 [(ca p_c),(L3 l)] (vi x3)] (ct62 hx3) ?_
  obtain rfl:=oi h
  refine WB 1 [(4,vi x3),(5,vi 0)] ?_
  exact awp_ret gm
theorem ct39 {fuel:Nat}  {p_c:S_api_EdCase} {l:(List Int)} {res:Int} (h:F39 fuel p_c l=some res):PCall Try.prog 39 [(ca p_c),(L3 l)] (vi res):=by
 refine PCall.of_awp tt_ok (N:=28) Try.func39 rfl (by kernel_rfl) rfl (Nat.le_of_ble_eq_true rfl) rfl ?_
 unfold F39 at h
 let q1:Nat×V:=(1,.d (L3 l))
 refine GA [q1,(2,rf 0)] [cs p_c] ?_
 refine HA [q1,(2,rf 0),(5,vi 0)] ?_
 refine awp_seq (HA [q1,(2,rf 0),(5,vi 0),(6,vi 0)] ?_)
 refine cuo h (fun (ro1:Int)=>[(4,vi ro1)]) (fun (ro1:Int)=>[]) (fun (so1:Int)=>[(5,vi so1)]) (fun (so1:Int)=>[cs p_c]) (fun o1 h=>?_) (fun ro1 h=>?_) (fun so1 h=>?_)
 ·refine awp_selQ (WA 1 [q1,(2,rf 0),(5,vi 0),(6,vi 0)] [cs p_c] ?_)
  refine awp_block (awp_loop (n:=fuel) ?_)
  refine awpN_ind (fun n (c2:Int×Int)=>F39L1 p_c l n c2) o1 (fun (c2:Int×Int)=>[q1,(2,rf 0),(5,vi c2.1),(6,vi c2.2)]) (fun (c2:Int×Int)=>[cs p_c]) (fun _=>rfl) ?_ fuel (0,0) h
  clear h
  intro n3 c2 h hrn3
  change F39L1 p_c l (n3+1) c2=some o1 at h
  rw [F39L1] at h
  refine awp_seq (GA [q1,(2,rf 0),(5,vi c2.1),(6,vi c2.2),(10,vb (decide (c2.2<(l.length:Int))))] [cs p_c] ?_)
  refine cd h (fun hb4 h=>?_) (fun hb4 h=>?_)
  ·refine awp_skip ?_
   show awp ..
   refine awp_seq (awp_block ?_)
   obtain ⟨x5,hx5,h⟩:=ob h
   obtain ⟨x6,hx6,h⟩:=ob h
   obtain ⟨x7,hx7,h⟩:=ob h
   refine awp_any (T':=[q1,(2,rf 0),(5,vi (w64 (c2.1+(w64 (x5.Weight*x7))))),(6,vi c2.2)]) (H':=[cs p_c]) (ps:=[IX66 p_c.Sheets c2.2 x5,IX3 l c2.2 x6,PCall Try.prog 71 [(di x6)] (vi x7)]) tt_ok mixed (ks:=[1,2,5,6]) (hs:=[.no,.no,.no,.no,.cells (cel66 x5),.no,.no,.no,.no,.cells (cel3 x6),.no,.call [(di x6)] (vi x7)]) (m:=13) (mid:=[1,2,5,6,13,25,26]) (by kernel_rfl) (And.intro (idxOk cel66_len hx5) (And.intro (idxOk cel3_len hx6) (ct71 hx7))) ?_
   show awp ..
   refine XA [q1,(2,rf 0),(5,vi (w64 (c2.1+(w64 (x5.Weight*x7))))),(6,vi (w64 (c2.2+1)))] [cs p_c] ?_
   exact gn 1 [1,2,5,6] (hrn3 _ h)
  ·refine awp_exit ?_
   obtain rfl:=oi h
   exact gs [0] [5] OutQ.norm
 ·obtain rfl:=oi h
  exact gm
 ·show awp ..
  refine GA [(4,vi so1)] [cs p_c] ?_
  obtain rfl:=oi h
  refine WB 1 [(4,vi so1)] ?_
  exact awp_ret gm
theorem ct23 {fuel:Nat}  {p_c:S_api_EdCase} {l:(List Int)} {res:Int×Int} (h:F23 fuel p_c l=some res):PCall Try.prog 23 [(ca p_c),(L3 l)] (.tup [vi res.1,vi res.2]):=by
 refine PCall.of_awp tt_ok (N:=16) Try.func23 rfl (by kernel_rfl) rfl (Nat.le_of_ble_eq_true rfl) rfl ?_
 unfold F23 at h
 refine GA [(1,.d (L3 l)),(2,rf 0)] [cs p_c] ?_
 obtain ⟨x1,hx1,h⟩:=ob h
 refine HB [.no,.no,.call [(ca p_c),(L3 l)] (vi x1)] [(1,.d (L3 l)),(2,rf 0),(6,vi x1)] [PCall Try.prog 61 [(ca p_c),(L3 l)] (vi x1)] (ct61 hx1) ?_
 refine awp_seq (HA [(1,.d (L3 l)),(2,rf 0),(6,vi x1),(11,vb (x1 != 0))] ?_)
 refine cd h (fun hb2 h=>?_) (fun hb2 h=>?_)
 ·refine GA [(4,vi 0),(5,vi x1)] [cs p_c] ?_
  obtain rfl:=oi h
  refine WB 1 [(4,vi 0),(5,vi x1)] ?_
  exact awp_ret gm
 ·refine awp_skip ?_
  show awp ..
  obtain ⟨x3,hx3,h⟩:=ob h
  refine GB [.no,.no,.call [(ca p_c),(L3 l)] (vi x3)] [(4,vi x3),(5,vi 0)] [cs p_c] [PCall Try.prog 39 [(ca p_c),(L3 l)] (vi x3)] (ct39 hx3) ?_
  obtain rfl:=oi h
  refine WB 1 [(4,vi x3),(5,vi 0)] ?_
  exact awp_ret gm
theorem ct41 {fuel:Nat}  {p_c:S_api_EdCase} {res:Bool} (h:F41 fuel p_c=some res):PCall Try.prog 41 [(ca p_c)] (vb res):=by
 refine PCall.of_awp tt_ok (N:=25) Try.func41 rfl (by kernel_rfl) rfl (Nat.le_of_ble_eq_true rfl) rfl ?_
 unfold F41 at h
 refine GA [(1,rf 0)] [cs p_c] ?_
 refine awp_seq (HA [(1,rf 0),(3,vi 0)] ?_)
 refine cuo h (fun (ro1:Bool)=>[(2,vb ro1)]) (fun (ro1:Bool)=>[]) (fun (so1:Unit)=>[]) (fun (so1:Unit)=>[cs p_c]) (fun o1 h=>?_) (fun ro1 h=>?_) (fun so1 h=>?_)
 ·refine awp_selQ (WA 1 [(1,rf 0),(3,vi 0)] [cs p_c] ?_)
  refine awp_block (awp_loop (n:=fuel) ?_)
  refine awpN_ind (fun n (c2:Int)=>F41L1 fuel p_c n c2) o1 (fun (c2:Int)=>[(1,rf 0),(3,vi c2)]) (fun (c2:Int)=>[cs p_c]) (fun _=>rfl) ?_ fuel 0 h
  clear h
  intro n3 c2 h hrn3
  change F41L1 fuel p_c (n3+1) c2=some o1 at h
  rw [F41L1] at h
  refine awp_seq (GA [(1,rf 0),(3,vi c2),(10,vb (decide (c2<(p_c.Edges.length:Int))))] [cs p_c] ?_)
  refine cd h (fun hb4 h=>?_) (fun hb4 h=>?_)
  ·refine awp_skip ?_
   show awp ..
   refine awp_seq (awp_block ?_)
   refine awp_res [cs p_c,.data []] (by kernel_rfl) ?_
   obtain ⟨x5,hx5,h⟩:=ob h
   obtain ⟨x6,hx6,h⟩:=ob h
   let q1:List O:=[cs p_c,.cells [vi x6.1.Lo,vi x6.1.Hi]]
   refine awp_seq (awp_any (T':=[(1,rf 0),(3,vi c2),(5,vb x6.2)]) (H':=[cs p_c,.cells [vi x6.1.Lo,vi x6.1.Hi]]) (ps:=[IX71 p_c.Edges c2 x5,PCall Try.prog 58 [(ca p_c),(.agg [(di x5.A),(di x5.B),(L74 x5.Points)])] (.tup [.d (.agg [(di x6.1.Lo),(di x6.1.Hi)]),vb x6.2])]) tt_ok mixed (ks:=[1,3,5]) (hs:=[.no,.no,.no,.no,.cells (cel71 x5),.no,.call [(ca p_c),(.agg [(di x5.A),(di x5.B),(L74 x5.Points)])] (.tup [.d (.agg [(di x6.1.Lo),(di x6.1.Hi)]),vb x6.2]),.no,.no,.no,.res 1]) (m:=12) (mid:=[1,3,5,22]) (by kernel_rfl) (And.intro (idxOk cel71_len hx5) (ct58 hx6)) ?_)
   show awp ..
   refine GA [(1,rf 0),(3,vi c2),(24,vb (!x6.2))] q1 ?_
   refine cd h (fun hb7 h=>?_) (fun hb7 h=>?_)
   ·refine GA [(2,vb false)] q1 ?_
    obtain rfl:=oi h
    refine WB 2 [(2,vb false)] ?_
    exact awp_ret (gs [] [2] OutQ.ret)
   ·refine awp_skip ?_
    show awp ..
    refine XA [(1,rf 0),(3,vi (w64 (c2+1)))] q1 ?_
    exact gn 1 [1,3] (hrn3 _ h)
  ·refine awp_exit ?_
   obtain rfl:=oi h
   exact gs [0] [] OutQ.norm
 ·obtain rfl:=oi h
  exact gm
 ·show awp ..
  refine GA [(2,vb true)] [cs p_c] ?_
  obtain rfl:=oi h
  refine WB 1 [(2,vb true)] ?_
  exact awp_ret gm
theorem ct70 {fuel:Nat}  {p_c:S_api_EdCase} {proof:(List Int)} {res:(List Int)} (h:F70 fuel p_c proof=some res):PCall Try.prog 70 [(ca p_c),(L3 proof)] (.d (L3 res)):=by
 refine PCall.of_awp tt_ok (N:=63) Try.func70 rfl (by kernel_rfl) rfl (Nat.le_of_ble_eq_true rfl) rfl ?_
 unfold F70 at h
 let q4:Nat×V:=(1,.d (L3 proof))
 refine GA [q4,(2,rf 0)] [cs p_c] ?_
 obtain ⟨x1,hx1,h⟩:=ob h
 let q1:=(List.replicate (p_c.Sheets.length:Int).toNat (0:Int))
 refine GB [.no,.no,.no,.list q1.length (q1.flatMap cel3)] [q4,(2,rf 0),(5,.sl 1 1 0 q1.length)] [cs p_c,.data (q1.flatMap cel3)] [MakeOk (p_c.Sheets.length:Int) (p_c.Sheets.length:Int) q1.length 8 [.int .i64 0] (q1.flatMap cel3)] (makeOk rfl (need_of hx1)) ?_
 refine awp_seq (HA [q4,(2,rf 0),(5,.sl 1 1 0 q1.length),(6,vi 0)] ?_)
 refine cuo h (fun (ro2:(List Int))=>[(4,.d (L3 ro2))]) (fun (ro2:(List Int))=>[]) (fun (so2:(List Int))=>[(5,.sl 1 1 0 so2.length)]) (fun (so2:(List Int))=>[cs p_c,.data (so2.flatMap cel3)]) (fun o2 h=>?_) (fun ro2 h=>?_) (fun so2 h=>?_)
 ·refine awp_selQ (WA 2 [q4,(2,rf 0),(5,.sl 1 1 0 q1.length),(6,vi 0)] [cs p_c,.data (q1.flatMap cel3)] ?_)
  refine awp_block (awp_loop (n:=fuel) ?_)
  refine awpN_ind (fun n (c3:Int×(List Int))=>F70L1 p_c proof n c3) o2 (fun (c3:Int×(List Int))=>[q4,(2,rf 0),(5,.sl 1 1 0 c3.2.length),(6,vi c3.1)]) (fun (c3:Int×(List Int))=>[cs p_c,.data (c3.2.flatMap cel3)]) (fun _=>rfl) ?_ fuel (0,q1) h
  clear h
  intro n4 c3 h hrn4
  change F70L1 p_c proof (n4+1) c3=some o2 at h
  rw [F70L1] at h
  refine awp_seq (GA [q4,(2,rf 0),(5,.sl 1 1 0 c3.2.length),(6,vi c3.1),(15,vb (decide (c3.1<(p_c.Edges.length:Int))))] [cs p_c,.data (c3.2.flatMap cel3)] ?_)
  refine cd h (fun hb5 h=>?_) (fun hb5 h=>?_)
  ·refine awp_skip ?_
   show awp ..
   refine awp_seq (awp_block ?_)
   obtain ⟨x6,hx6,h⟩:=ob h
   obtain ⟨x7,hx7,h⟩:=ob h
   obtain ⟨x8,hx8,h⟩:=ob h
   obtain ⟨x9,hx9,h⟩:=ob h
   obtain ⟨x10,hx10,h⟩:=ob h
   let q2:=(c3.2.set x6.A.toNat (w64 (x8+x9)))
   refine sd [1,2,5,6] [.no,.no,.no,.no,.cells (cel71 x6),.no,.no,.no,.no,.no,.no,.cells (cel71 x7),.no,.no,.no,.vals (([(di x8)]:List D).map .d),.no,.no,.cells (cel3 x9),.no,.no,.no,.cells (q2.flatMap cel3)] 21 [1,2,5,6,18,24,38,39] [q4,(2,rf 0),(5,.sl 1 1 0 c3.2.length),(6,vi c3.1)] [cs p_c,.data (q2.flatMap cel3)] [IX71 p_c.Edges c3.1 x6,IX71 p_c.Edges c3.1 x7,(0≤x7.A∧x7.A<(c3.2.length:Int)),LoadOk ((c3.2.flatMap cel3).map .d) (0+x7.A.toNat*1) 1 (([(di x8)]:List D).map .d),IX3 proof c3.1 x9,(0≤x6.A∧x6.A<(c3.2.length:Int)),StoreOk ((c3.2.flatMap cel3).map .d) (0+x6.A.toNat*1) (([(di (w64 (x8+x9)))]:List D).map .d) ((q2.flatMap cel3).map .d)] (And.intro (idxOk cel71_len hx6) (And.intro (idxOk cel71_len hx7) (And.intro (idx_bounds hx8) (And.intro (loadOk (j:=0) (es:=([(di x8)]:List D)) cel3_len hx8 rfl rfl rfl (Nat.le_of_ble_eq_true rfl)) (And.intro (idxOk cel3_len hx9) (And.intro (idx_bounds hx10) (storeOk (j:=0) (us:=([(di (w64 (x8+x9)))]:List D)) (y:=(w64 (x8+x9))) cel3_len hx10 rfl rfl (Nat.le_of_ble_eq_true rfl)))))))) ?_
   refine awp_eq (T':=[(1,.d (L3 proof)),(2,rf 0),(5,.sl 1 1 0 (c3.2.set x6.A.toNat (w64 (x8+x9))).length),(6,vi c3.1)]) (H':=[cs p_c,.data ((c3.2.set x6.A.toNat (w64 (x8+x9))).flatMap cel3)]) (by first|(simp +zetaDelta only [List.length_set];done)|(simp +zetaDelta only [len_copy];done)|simp +zetaDelta only [List.length_set,len_copy]) rfl ?_
   obtain ⟨x11,hx11,h⟩:=ob h
   obtain ⟨x12,hx12,h⟩:=ob h
   obtain ⟨x13,hx13,h⟩:=ob h
   obtain ⟨x14,hx14,h⟩:=ob h
   obtain ⟨x15,hx15,h⟩:=ob h
   let q3:=(q2.set x11.B.toNat (w64 (x13-x14)))
   refine awp_any (T':=[q4,(2,rf 0),(5,.sl 1 1 0 q2.length),(6,vi c3.1)]) (H':=[cs p_c,.data (q3.flatMap cel3)]) (ps:=[IX71 p_c.Edges c3.1 x11,IX71 p_c.Edges c3.1 x12,(0≤x12.B∧x12.B<(q2.length:Int)),LoadOk ((q2.flatMap cel3).map .d) (0+x12.B.toNat*1) 1 (([(di x13)]:List D).map .d),IX3 proof c3.1 x14,(0≤x11.B∧x11.B<(q2.length:Int)),StoreOk ((q2.flatMap cel3).map .d) (0+x11.B.toNat*1) (([(di (w64 (x13-x14)))]:List D).map .d) ((q3.flatMap cel3).map .d)]) tt_ok mixed (ks:=[1,2,5,6]) (hs:=[.no,.no,.no,.no,.cells (cel71 x11),.no,.no,.no,.no,.no,.no,.cells (cel71 x12),.no,.no,.no,.vals (([(di x13)]:List D).map .d),.no,.no,.cells (cel3 x14),.no,.no,.no,.cells (q3.flatMap cel3)]) (m:=21) (mid:=[1,2,5,6,40,46,60,61]) (by kernel_rfl) (And.intro (idxOk cel71_len hx11) (And.intro (idxOk cel71_len hx12) (And.intro (idx_bounds hx13) (And.intro (loadOk (j:=0) (es:=([(di x13)]:List D)) cel3_len hx13 rfl rfl rfl (Nat.le_of_ble_eq_true rfl)) (And.intro (idxOk cel3_len hx14) (And.intro (idx_bounds hx15) (storeOk (j:=0) (us:=([(di (w64 (x13-x14)))]:List D)) (y:=(w64 (x13-x14))) cel3_len hx15 rfl rfl (Nat.le_of_ble_eq_true rfl)))))))) ?_
   refine q_eq (T':=[(1,.d (L3 proof)),(2,rf 0),(5,.sl 1 1 0 ((c3.2.set x6.A.toNat (w64 (x8+x9))).set x11.B.toNat (w64 (x13-x14))).length),(6,vi c3.1)]) (H':=[cs p_c,.data (((c3.2.set x6.A.toNat (w64 (x8+x9))).set x11.B.toNat (w64 (x13-x14))).flatMap cel3)]) (by first|(simp +zetaDelta only [List.length_set];done)|(simp +zetaDelta only [len_copy];done)|simp +zetaDelta only [List.length_set,len_copy]) rfl ?_
   show awp ..
   refine XA [q4,(2,rf 0),(5,.sl 1 1 0 q3.length),(6,vi (w64 (c3.1+1)))] [cs p_c,.data (q3.flatMap cel3)] ?_
   exact gn 2 [1,2,5,6] (hrn4 _ h)
  ·refine awp_exit ?_
   obtain rfl:=oi h
   exact gs [0,1] [5] OutQ.norm
 ·obtain rfl:=oi h
  exact gm
 ·show awp ..
  refine GA [(4,.sl 1 1 0 so2.length)] [cs p_c,.data (so2.flatMap cel3)] ?_
  obtain rfl:=oi h
  refine WB 2 [(4,.sl 1 1 0 so2.length)] ?_
  refine awp_freeze 4 1 (so2.flatMap cel3) (.sl 1 1 0 so2.length) (.d (L3 so2)) _ _ (ps:=[(so2.flatMap cel3).length=so2.length*1]) (by kernel_rfl) (by kernel_rfl) (by kernel_rfl) (flatMap_len cel3 1 cel3_len so2) rfl rfl ?_
  refine WA 2 [(4,.d (L3 so2))] [cs p_c,.data (([]:List Int).flatMap cel3)] ?_
  exact awp_ret gm
theorem ct31 {fuel:Nat}  {p_c:S_api_EdCase} {proof:(List Int)} {res:Int×Int} (h:F31 fuel p_c proof=some res):PCall Try.prog 31 [(ca p_c),(L3 proof)] (.tup [vi res.1,vi res.2]):=by
 refine PCall.of_awp tt_ok (N:=129) Try.func31 rfl (by kernel_rfl) rfl (Nat.le_of_ble_eq_true rfl) rfl ?_
 unfold F31 at h
 let q1:Nat×V:=(1,.d (L3 proof))
 refine GA [q1,(2,rf 0)] [cs p_c] ?_
 obtain ⟨x1,hx1,h⟩:=ob h
 refine HB [.no,.call [(ca p_c)] (.tup [vi x1.1,vi x1.2.1,vi x1.2.2])] [q1,(2,rf 0),(8,vi x1.2.2)] [PCall Try.prog 17 [(ca p_c)] (.tup [vi x1.1,vi x1.2.1,vi x1.2.2])] (ct17 hx1) ?_
 refine awp_seq (HB [] [q1,(2,rf 0),(8,vi x1.2.2),(31,vb (cond (x1.2.2==0) ((proof.length:Int) != (p_c.Edges.length:Int)) false))] [((x1.2.2==0)=true→(x1.2.2==0)=true),((x1.2.2==0)=true→(x1.2.2==0)=true),((x1.2.2==0)=true→(x1.2.2==0)=true),((x1.2.2==0)=true→(x1.2.2==0)=true),((x1.2.2==0)=true→(x1.2.2==0)=true),((x1.2.2==0)=true→(x1.2.2==0)=true)] (And.intro (id) (And.intro (id) (And.intro (id) (And.intro (id) (And.intro (id) (id)))))) ?_)
 refine cuo h (fun (ro2:Int×Int)=>[(4,vi ro2.1),(5,vi ro2.2)]) (fun (ro2:Int×Int)=>[]) (fun (so2:Int)=>[q1,(2,rf 0),(8,vi so2)]) (fun (so2:Int)=>[cs p_c]) (fun o2 h=>?_) (fun ro2 h=>?_) (fun so2 h=>?_)
 ·refine awp_selQ (cd h (fun hb3 h=>?_) (fun hb3 h=>?_))
  ·refine XA [q1,(2,rf 0),(8,vi 3)] [cs p_c] ?_
   obtain rfl:=oi h
   exact gs [0] [1,2,8] OutQ.norm
  ·refine awp_skip ?_
   obtain rfl:=oi h
   exact gs [0] [1,2,8] OutQ.norm
 ·obtain rfl:=oi h
  exact gm
 ·show awp ..
  refine awp_seq (GA [q1,(2,rf 0),(8,vi so2),(9,vi 0)] [cs p_c] ?_)
  refine cuo h (fun (ro4:Int×Int)=>[(4,vi ro4.1),(5,vi ro4.2)]) (fun (ro4:Int×Int)=>[]) (fun (so4:Int)=>[q1,(2,rf 0),(8,vi so4)]) (fun (so4:Int)=>[cs p_c]) (fun o4 h=>?_) (fun ro4 h=>?_) (fun so4 h=>?_)
  ·refine awp_selQ (WA 1 [q1,(2,rf 0),(8,vi so2),(9,vi 0)] [cs p_c] ?_)
   refine awp_block (awp_loop (n:=fuel) ?_)
   refine awpN_ind (fun n (c5:Int×Int)=>F31L1 proof n c5) o4 (fun (c5:Int×Int)=>[q1,(2,rf 0),(8,vi c5.1),(9,vi c5.2)]) (fun (c5:Int×Int)=>[cs p_c]) (fun _=>rfl) ?_ fuel (so2,0) h
   clear h
   intro n6 c5 h hrn6
   change F31L1 proof (n6+1) c5=some o4 at h
   rw [F31L1] at h
   let q3:=(decide (c5.2<(proof.length:Int)))
   refine awp_seq (GB [] [q1,(2,rf 0),(8,vi c5.1),(9,vi c5.2),(39,vb (cond q3 (c5.1==0) false))] [cs p_c] [(q3=true→q3=true),(q3=true→q3=true)] (And.intro (id) (id)) ?_)
   refine cd h (fun hb7 h=>?_) (fun hb7 h=>?_)
   ·refine awp_skip ?_
    show awp ..
    refine awp_seq (awp_block ?_)
    obtain ⟨x8,hx8,h⟩:=ob h
    obtain ⟨x9,hx9,h⟩:=ob h
    refine GB [.no,.no,.cells (cel3 x8),.no,.call [(di x8),(di (-100000)),(di 100000)] (vb x9)] [q1,(2,rf 0),(8,vi c5.1),(9,vi c5.2),(47,vb (!x9))] [cs p_c] [IX3 proof c5.2 x8,PCall Try.prog 54 [(di x8),(di (-100000)),(di 100000)] (vb x9)] (And.intro (idxOk cel3_len hx8) (ct54 hx9)) ?_
    refine cd h (fun hb10 h=>?_) (fun hb10 h=>?_)
    ·refine XA [q1,(2,rf 0),(8,vi 7),(9,vi c5.2)] [cs p_c] ?_
     show awp ..
     refine YA [q1,(2,rf 0),(8,vi 7),(9,vi (w64 (c5.2+1)))] ?_
     exact gn 1 [1,2,8,9] (hrn6 _ h)
    ·refine awp_skip ?_
     show awp ..
     refine XA [q1,(2,rf 0),(8,vi c5.1),(9,vi (w64 (c5.2+1)))] [cs p_c] ?_
     exact gn 1 [1,2,8,9] (hrn6 _ h)
   ·refine awp_exit ?_
    obtain rfl:=oi h
    exact gs [0] [1,2,8] OutQ.norm
  ·obtain rfl:=oi h
   exact gm
  ·show awp ..
   refine awp_seq ?_
   obtain ⟨x11,hx11,h⟩:=ob h
   refine GB [.no,.no,.no,.no,.call [(ca p_c)] (vb x11)] [q1,(2,rf 0),(8,vi so4),(54,vb (cond (so4==0) (!x11) false))] [cs p_c] [((so4==0)=true→(so4==0)=true),((so4==0)=true→PCall Try.prog 41 [(ca p_c)] (vb x11)),((so4==0)=true→(so4==0)=true),((so4==0)=true→(so4==0)=true)] (And.intro (id) (And.intro ((fun hg=>ct41 (optG_of hx11 hg))) (And.intro (id) (id)))) ?_
   refine cuo h (fun (ro12:Int×Int)=>[(4,vi ro12.1),(5,vi ro12.2)]) (fun (ro12:Int×Int)=>[]) (fun (so12:Int)=>[q1,(2,rf 0),(8,vi so12)]) (fun (so12:Int)=>[cs p_c]) (fun o12 h=>?_) (fun ro12 h=>?_) (fun so12 h=>?_)
   ·refine awp_selQ (cd h (fun hb13 h=>?_) (fun hb13 h=>?_))
    ·refine XA [q1,(2,rf 0),(8,vi 9)] [cs p_c] ?_
     obtain rfl:=oi h
     exact gs [0] [1,2,8] OutQ.norm
    ·refine awp_skip ?_
     obtain rfl:=oi h
     exact gs [0] [1,2,8] OutQ.norm
   ·obtain rfl:=oi h
    exact gm
   ·show awp ..
    refine awp_seq (GA [q1,(2,rf 0),(8,vi so12),(56,vb (so12 != 0))] [cs p_c] ?_)
    refine cd h (fun hb14 h=>?_) (fun hb14 h=>?_)
    ·refine GA [(4,vi 0),(5,vi so12)] [cs p_c] ?_
     obtain rfl:=oi h
     refine WB 1 [(4,vi 0),(5,vi so12)] ?_
     exact awp_ret gm
    ·refine awp_skip ?_
     show awp ..
     refine GA [q1,(2,rf 0),(10,vi 0)] [cs p_c] ?_
     refine awp_seq (HA [q1,(2,rf 0),(10,vi 0),(11,vi 0)] ?_)
     refine cuo h (fun (ro15:Int×Int)=>[(4,vi ro15.1),(5,vi ro15.2)]) (fun (ro15:Int×Int)=>[]) (fun (so15:Int)=>[q1,(2,rf 0),(10,vi so15)]) (fun (so15:Int)=>[cs p_c]) (fun o15 h=>?_) (fun ro15 h=>?_) (fun so15 h=>?_)
     ·refine awp_selQ (WA 1 [q1,(2,rf 0),(10,vi 0),(11,vi 0)] [cs p_c] ?_)
      refine awp_block (awp_loop (n:=fuel) ?_)
      refine awpN_ind (fun n (c16:Int×Int)=>F31L2 fuel p_c proof n c16) o15 (fun (c16:Int×Int)=>[q1,(2,rf 0),(10,vi c16.1),(11,vi c16.2)]) (fun (c16:Int×Int)=>[cs p_c]) (fun _=>rfl) ?_ fuel (0,0) h
      clear h
      intro n17 c16 h hrn17
      change F31L2 fuel p_c proof (n17+1) c16=some o15 at h
      rw [F31L2] at h
      refine awp_seq (GA [q1,(2,rf 0),(10,vi c16.1),(11,vi c16.2),(61,vb (decide (c16.2<(proof.length:Int))))] [cs p_c] ?_)
      refine cd h (fun hb18 h=>?_) (fun hb18 h=>?_)
      ·refine awp_skip ?_
       show awp ..
       refine awp_seq (awp_block ?_)
       refine awp_res [cs p_c,.data []] (by kernel_rfl) ?_
       obtain ⟨x19,hx19,h⟩:=ob h
       obtain ⟨x20,hx20,h⟩:=ob h
       let q5:O:=.cells [vi x20.1.Lo,vi x20.1.Hi]
       let q2:List O:=[cs p_c,q5]
       refine awp_seq (awp_any (T':=[q1,(2,rf 0),(10,vi c16.1),(11,vi c16.2),(12,rf 1)]) (H':=[cs p_c,q5]) (ps:=[IX71 p_c.Edges c16.2 x19,PCall Try.prog 58 [(ca p_c),(.agg [(di x19.A),(di x19.B),(L74 x19.Points)])] (.tup [.d (.agg [(di x20.1.Lo),(di x20.1.Hi)]),vb x20.2])]) tt_ok mixed (ks:=[1,2,10,11,12]) (hs:=[.no,.no,.no,.no,.cells (cel71 x19),.no,.call [(ca p_c),(.agg [(di x19.A),(di x19.B),(L74 x19.Points)])] (.tup [.d (.agg [(di x20.1.Lo),(di x20.1.Hi)]),vb x20.2]),.no,.no,.no,.res 1]) (m:=12) (mid:=[1,2,10,11,12,73]) (by kernel_rfl) (And.intro (idxOk cel71_len hx19) (ct58 hx20)) ?_)
       show awp ..
       obtain ⟨x21,hx21,h⟩:=ob h
       refine GB [.no,.no,.cells (cel3 x21)] [q1,(2,rf 0),(10,vi c16.1),(11,vi c16.2),(12,rf 1),(78,vb (decide (x21>0)))] q2 [IX3 proof c16.2 x21] (idxOk cel3_len hx21) ?_
       refine cd h (fun hb22 h=>?_) (fun hb22 h=>?_)
       ·obtain ⟨x23,hx23,h⟩:=ob h
        refine awp_any (T':=[q1,(2,rf 0),(10,vi (w64 (c16.1+(w64 (x23*x20.1.Lo))))),(11,vi c16.2)]) (H':=[cs p_c,q5]) (ps:=[IX3 proof c16.2 x23]) tt_ok mixed (ks:=[1,2,10,11]) (hs:=[.no,.no,.no,.cells (cel3 x23)]) (m:=8) (mid:=[1,2,10,11,79,86,87]) (by kernel_rfl) (idxOk cel3_len hx23) ?_
        show awp ..
        refine XA [q1,(2,rf 0),(10,vi (w64 (c16.1+(w64 (x23*x20.1.Lo))))),(11,vi (w64 (c16.2+1)))] q2 ?_
        exact gn 1 [1,2,10,11] (hrn17 _ h)
       ·obtain ⟨x24,hx24,h⟩:=ob h
        refine awp_any (T':=[q1,(2,rf 0),(10,vi (w64 (c16.1+(w64 (x24*x20.1.Hi))))),(11,vi c16.2)]) (H':=[cs p_c,q5]) (ps:=[IX3 proof c16.2 x24]) tt_ok mixed (ks:=[1,2,10,11]) (hs:=[.no,.no,.no,.cells (cel3 x24)]) (m:=8) (mid:=[1,2,10,11,88,95,96]) (by kernel_rfl) (idxOk cel3_len hx24) ?_
        show awp ..
        refine XA [q1,(2,rf 0),(10,vi (w64 (c16.1+(w64 (x24*x20.1.Hi))))),(11,vi (w64 (c16.2+1)))] q2 ?_
        exact gn 1 [1,2,10,11] (hrn17 _ h)
      ·refine awp_exit ?_
       obtain rfl:=oi h
       exact gs [0] [1,2,10] OutQ.norm
     ·obtain rfl:=oi h
      exact gm
     ·show awp ..
      obtain ⟨x25,hx25,h⟩:=ob h
      let q6:Nat×V:=(14,.d (L3 x25))
      refine GB [.no,.no,.call [(ca p_c),(L3 proof)] (.d (L3 x25))] [(2,rf 0),(10,vi so15),q6] [cs p_c] [PCall Try.prog 70 [(ca p_c),(L3 proof)] (.d (L3 x25))] (ct70 hx25) ?_
      refine awp_seq (HA [(2,rf 0),(10,vi so15),q6,(15,vi 0)] ?_)
      refine cuo h (fun (ro26:Int×Int)=>[(4,vi ro26.1),(5,vi ro26.2)]) (fun (ro26:Int×Int)=>[]) (fun (so26:Int)=>[(10,vi so26)]) (fun (so26:Int)=>[cs p_c]) (fun o26 h=>?_) (fun ro26 h=>?_) (fun so26 h=>?_)
      ·refine awp_selQ (WA 1 [(2,rf 0),(10,vi so15),q6,(15,vi 0)] [cs p_c] ?_)
       refine awp_block (awp_loop (n:=fuel) ?_)
       refine awpN_ind (fun n (c27:Int×Int)=>F31L3 p_c x25 n c27) o26 (fun (c27:Int×Int)=>[(2,rf 0),(10,vi c27.1),q6,(15,vi c27.2)]) (fun (c27:Int×Int)=>[cs p_c]) (fun _=>rfl) ?_ fuel (so15,0) h
       clear h
       intro n28 c27 h hrn28
       change F31L3 p_c x25 (n28+1) c27=some o26 at h
       rw [F31L3] at h
       refine awp_seq (GA [(2,rf 0),(10,vi c27.1),q6,(15,vi c27.2),(103,vb (decide (c27.2<(x25.length:Int))))] [cs p_c] ?_)
       refine cd h (fun hb29 h=>?_) (fun hb29 h=>?_)
       ·refine awp_skip ?_
        show awp ..
        refine awp_seq (awp_block ?_)
        obtain ⟨x30,hx30,h⟩:=ob h
        obtain ⟨x31,hx31,h⟩:=ob h
        obtain ⟨x32,hx32,h⟩:=ob h
        obtain ⟨x33,hx33,h⟩:=ob h
        let q4:Nat×V:=(10,vi (w64 (c27.1-(w64 (x30.Most*(if (w64 (x32-x33.Weight))>0 then (w64 (x32-x33.Weight)) else 0))))))
        refine awp_any (T':=[(2,rf 0),q4,q6,(15,vi c27.2)]) (H':=[cs p_c]) (ps:=[IX66 p_c.Sheets c27.2 x30,IX3 x25 c27.2 x31,PCall Try.prog 71 [(di x31)] (vi x32),IX66 p_c.Sheets c27.2 x33]) tt_ok mixed (ks:=[2,10,14,15]) (hs:=[.no,.no,.no,.no,.cells (cel66 x30),.no,.no,.no,.no,.cells (cel3 x31),.no,.call [(di x31)] (vi x32),.no,.no,.no,.cells (cel66 x33)]) (m:=21) (mid:=[2,10,14,15,106,126,127]) (by kernel_rfl) (And.intro (idxOk cel66_len hx30) (And.intro (idxOk cel3_len hx31) (And.intro (ct71 hx32) (idxOk cel66_len hx33)))) ?_
        show awp ..
        refine XA [(2,rf 0),q4,q6,(15,vi (w64 (c27.2+1)))] [cs p_c] ?_
        exact gn 1 [2,10,14,15] (hrn28 _ h)
       ·refine awp_exit ?_
        obtain rfl:=oi h
        exact gs [0] [10] OutQ.norm
      ·obtain rfl:=oi h
       exact gm
      ·show awp ..
       refine GA [(4,vi so26),(5,vi 0)] [cs p_c] ?_
       obtain rfl:=oi h
       refine WB 1 [(4,vi so26),(5,vi 0)] ?_
       exact awp_ret gm
end Go.Proofs.Ytallnifoeahpiaa
