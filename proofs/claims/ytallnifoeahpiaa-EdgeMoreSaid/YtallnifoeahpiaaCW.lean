/- That functions of the seat compute this. Printed by a program of mine. -/
import Derived.Test.YtallnifoeahpiaaS
import Derived.Test.YtallnifoeahpiaaCEB
import Derived.Test.YtallnifoeahpiaaCEC
import Derived.Test.YtallnifoeahpiaaCED
import Derived.Test.YtallnifoeahpiaaCEE
import Derived.Test.YtallnifoeahpiaaCEF
import Derived.Test.YtallnifoeahpiaaCEG
import Derived.Test.YtallnifoeahpiaaCEH
import Derived.Test.YtallnifoeahpiaaDW
namespace Go.Proofs.Ytallnifoeahpiaa
open Go Go.Sx
set_option maxRecDepth 100000
set_option linter.unusedVariables false
theorem ct76  {p_a:Int} {p_b:Int} {high:Int} {other:Int} {res:S_api_EdEdge} (h:F76 p_a p_b high other=some res):PCall Try.prog 76 [(di p_a),(di p_b),(di high),(di other)] (.d (.agg [(di res.A),(di res.B),(LT74 res.Points)])):=by
 refine PCall.of_awp tt_ok (N:=16) Try.func76 rfl (by kernel_rfl) rfl (Nat.le_of_ble_eq_true rfl) rfl ?_
 unfold F76 at h
 refine GA [(0,vi p_a),(1,vi p_b),(2,vi high),(3,vi other),(8,rf 0)] [.cells [vi 0,vi 0,.d dnil]] ?_
 refine g0 [8] [.no,.no,.no,.no,.no,.cells []] [(8,rf 0)] [.cells [vi p_a,vi p_b,.d (LT74 ([(⟨high,other⟩:S_api_EdPoint)]:List S_api_EdPoint))]] ?_
 obtain rfl:=oi h
 refine WB 1 [(8,rf 0)] ?_
 exact awp_ret gm
theorem ct34  {further:Bool} {res:S_api_EdCase} (h:F34 further=some res):PCall Try.prog 34 [(db further)] (.d (ca res)):=by
 refine PCall.of_awp tt_ok (N:=33) Try.func34 rfl (by kernel_rfl) rfl (Nat.le_of_ble_eq_true rfl) rfl ?_
 unfold F34 at h
 let q7:O:=.cells [vi 0,.d dnil,.d dnil]
 refine GA [(0,vb further),(2,rf 0)] [q7] ?_
 obtain ⟨x1,hx1,h⟩:=ob h
 obtain ⟨x2,hx2,h⟩:=ob h
 obtain ⟨x3,hx3,h⟩:=ob h
 let q6:O:=.cells [vi 1,.d (L66 ([(⟨(⟨#[110,111,114,116,104]⟩:ByteArray),2,6⟩:S_api_EdSheet),(⟨(⟨#[109,105,100]⟩:ByteArray),3,6⟩:S_api_EdSheet),(⟨(⟨#[115,111,117,116,104]⟩:ByteArray),1,6⟩:S_api_EdSheet)]:List S_api_EdSheet)),.sl 3 1 0 3]
 let q8:St:=[(0,vb further),(2,rf 0),(3,rf 2)]
 refine GB [.no,.no,.no,.no,.call [(di 0),(di 1),(di 100),(di 104)] (.d (.agg [(di x1.A),(di x1.B),(LT74 x1.Points)])),.call [(di 1),(di 2),(di 300),(di 302)] (.d (.agg [(di x2.A),(di x2.B),(LT74 x2.Points)])),.call [(di 0),(di 2),(di 400),(di 405)] (.d (.agg [(di x3.A),(di x3.B),(LT74 x3.Points)])),.own] q8 [q7,.data [(di x1.A),(di x1.B),(LT74 x1.Points),(di x2.A),(di x2.B),(LT74 x2.Points),(di x3.A),(di x3.B),(LT74 x3.Points)],q6] [PCall Try.prog 76 [(di 0),(di 1),(di 100),(di 104)] (.d (.agg [(di x1.A),(di x1.B),(LT74 x1.Points)])),PCall Try.prog 76 [(di 1),(di 2),(di 300),(di 302)] (.d (.agg [(di x2.A),(di x2.B),(LT74 x2.Points)])),PCall Try.prog 76 [(di 0),(di 2),(di 400),(di 405)] (.d (.agg [(di x3.A),(di x3.B),(LT74 x3.Points)]))] (And.intro (ct76 hx1) (And.intro (ct76 hx2) (ct76 hx3))) ?_
 obtain ⟨x4,hx4,h⟩:=ob h
 let q4:=(x1.Points++([(⟨200,203⟩:S_api_EdPoint)]:List S_api_EdPoint))
 refine sd [0,2,3] [.no,.no,.no,.no,.no,.no,.no,.no,.no,.listT q4.length (q4.flatMap cel74),.no,.no,.cells [(di x1.A),(di x1.B),(L74 q4),(di x2.A),(di x2.B),(LT74 x2.Points),(di x3.A),(di x3.B),(LT74 x3.Points)]] 10 [0,2,3,14,22,23,24] q8 [q7,.data [(di x1.A),(di x1.B),(L74 q4),(di x2.A),(di x2.B),(LT74 x2.Points),(di x3.A),(di x3.B),(LT74 x3.Points)],q6] [(0≤(0:Int)∧(0:Int)<(3:Int)),AppendOk ((x1.Points.flatMap cel74).map .d) x1.Points.length ([(⟨200,203⟩:S_api_EdPoint)]:List S_api_EdPoint).length (x1.Points++([(⟨200,203⟩:S_api_EdPoint)]:List S_api_EdPoint)).length 2 16 (([(⟨200,203⟩:S_api_EdPoint)]:List S_api_EdPoint).flatMap cel74) ((x1.Points++([(⟨200,203⟩:S_api_EdPoint)]:List S_api_EdPoint)).flatMap cel74),(0≤(0:Int)∧(0:Int)<(3:Int)),StoreOk ([(di x1.A),(di x1.B),(LT74 x1.Points),(di x2.A),(di x2.B),(LT74 x2.Points),(di x3.A),(di x3.B),(LT74 x3.Points)].map .d) 2 [.d (L74 (x1.Points++([(⟨200,203⟩:S_api_EdPoint)]:List S_api_EdPoint)))] ([(di x1.A),(di x1.B),(L74 (x1.Points++([(⟨200,203⟩:S_api_EdPoint)]:List S_api_EdPoint))),(di x2.A),(di x2.B),(LT74 x2.Points),(di x3.A),(di x3.B),(LT74 x3.Points)].map .d)] (And.intro ((by decide:0≤(0:Int)∧(0:Int)<(3:Int))) (And.intro (appendOk cel74_len (need_of hx4)) (And.intro ((by decide:0≤(0:Int)∧(0:Int)<(3:Int))) (⟨Nat.le_of_ble_eq_true rfl,rfl⟩)))) ?_
 let q2:=(([(⟨x1.A,x1.B,q4⟩:S_api_EdEdge),(⟨x2.A,x2.B,x2.Points⟩:S_api_EdEdge),(⟨x3.A,x3.B,x3.Points⟩:S_api_EdEdge)]:List S_api_EdEdge).flatMap cel71)
 refine awp_laxR 1 [(di x1.A),(di x1.B),(L74 q4),(di x2.A),(di x2.B),(LT74 x2.Points),(di x3.A),(di x3.B),(LT74 x3.Points)] q2 [q7,.data q2,q6] (by kernel_rfl) (.cons .rfl (.cons .rfl (.cons .rfl (.cons .rfl (.cons .rfl (.cons .loose (.cons .rfl (.cons .rfl (.cons .loose .nil))))))))) (by kernel_rfl) ?_
 let q3:O:=.cells [vi 1,.d (L66 ([(⟨(⟨#[110,111,114,116,104]⟩:ByteArray),2,6⟩:S_api_EdSheet),(⟨(⟨#[109,105,100]⟩:ByteArray),3,6⟩:S_api_EdSheet),(⟨(⟨#[115,111,117,116,104]⟩:ByteArray),1,6⟩:S_api_EdSheet)]:List S_api_EdSheet)),.sl 3 1 0 ([(⟨x1.A,x1.B,q4⟩:S_api_EdEdge),(⟨x2.A,x2.B,x2.Points⟩:S_api_EdEdge),(⟨x3.A,x3.B,x3.Points⟩:S_api_EdEdge)]:List S_api_EdEdge).length]
 refine awp_eq (T':=[(0,vb further),(2,rf 0),(3,rf 2)]) (H':=[q7,.data q2,q3]) rfl rfl ?_
 refine awp_seq (GA [(2,rf 0),(3,rf 2),(25,vb further)] [q7,.data q2,q3] ?_)
 refine cd h (fun hb5 h=>?_) (fun hb5 h=>?_)
 ·obtain ⟨x6,hx6,h⟩:=ob h
  obtain ⟨x7,hx7,h⟩:=ob h
  let q1:=(([(⟨x1.A,x1.B,q4⟩:S_api_EdEdge),(⟨x2.A,x2.B,x2.Points⟩:S_api_EdEdge),(⟨x3.A,x3.B,x3.Points⟩:S_api_EdEdge)]:List S_api_EdEdge)++([(⟨x6.A,x6.B,x6.Points⟩:S_api_EdEdge)]:List S_api_EdEdge))
  let q5:O:=.cells [vi 1,.d (L66 ([(⟨(⟨#[110,111,114,116,104]⟩:ByteArray),2,6⟩:S_api_EdSheet),(⟨(⟨#[109,105,100]⟩:ByteArray),3,6⟩:S_api_EdSheet),(⟨(⟨#[115,111,117,116,104]⟩:ByteArray),1,6⟩:S_api_EdSheet)]:List S_api_EdSheet)),.sl 3 1 0 q1.length]
  refine awp_any (T':=[(2,rf 0),(3,rf 2)]) (H':=[q7,.data (q1.flatMap cel71),q5]) (ps:=[PCall Try.prog 76 [(di 0),(di 2),(di 500),(di 500)] (.d (.agg [(di x6.A),(di x6.B),(L74 x6.Points)])),AppendOk (q2.map .d) ([(⟨x1.A,x1.B,q4⟩:S_api_EdEdge),(⟨x2.A,x2.B,x2.Points⟩:S_api_EdEdge),(⟨x3.A,x3.B,x3.Points⟩:S_api_EdEdge)]:List S_api_EdEdge).length ([(⟨x6.A,x6.B,x6.Points⟩:S_api_EdEdge)]:List S_api_EdEdge).length q1.length 3 40 (([(⟨x6.A,x6.B,x6.Points⟩:S_api_EdEdge)]:List S_api_EdEdge).flatMap cel71) (q1.flatMap cel71)]) tt_ok mixed (ks:=[2,3]) (hs:=[.no,.no,.call [(di 0),(di 2),(di 500),(di 500)] (.d (.agg [(di x6.A),(di x6.B),(L74 x6.Points)])),.no,.list q1.length (q1.flatMap cel71)]) (m:=4) (mid:=[2,3,27,29,30,31]) (by kernel_rfl) (And.intro (PCall.leR (.agg (.cons .rfl (.cons .rfl (.cons .loose .nil)))) (ct76 hx6)) (appendOk cel71_len (need_of hx7))) ?_
  show awp ..
  refine GA [(2,rf 0)] [q5,.data (q1.flatMap cel71),q5] ?_
  obtain rfl:=oi h
  refine WB 3 [(2,rf 0)] ?_
  refine awp_freezeC 0 2 1 (q1.flatMap cel71) [vi 1,.d (L66 ([(⟨(⟨#[110,111,114,116,104]⟩:ByteArray),2,6⟩:S_api_EdSheet),(⟨(⟨#[109,105,100]⟩:ByteArray),3,6⟩:S_api_EdSheet),(⟨(⟨#[115,111,117,116,104]⟩:ByteArray),1,6⟩:S_api_EdSheet)]:List S_api_EdSheet)),.sl 3 1 0 q1.length] (.sl 3 1 0 q1.length) (.d (L71 q1)) _ _ (ps:=[(q1.flatMap cel71).length=q1.length*3]) (by kernel_rfl) (by kernel_rfl) (by kernel_rfl) (by kernel_rfl) (flatMap_len cel71 3 cel71_len q1) rfl rfl ?_
  refine WA 3 [(2,rf 0)] [.cells [vi 1,.d (L66 ([(⟨(⟨#[110,111,114,116,104]⟩:ByteArray),2,6⟩:S_api_EdSheet),(⟨(⟨#[109,105,100]⟩:ByteArray),3,6⟩:S_api_EdSheet),(⟨(⟨#[115,111,117,116,104]⟩:ByteArray),1,6⟩:S_api_EdSheet)]:List S_api_EdSheet)),.d (L71 q1)],.data (([]:List S_api_EdEdge).flatMap cel71),.cells [vi 1,.d (L66 ([(⟨(⟨#[110,111,114,116,104]⟩:ByteArray),2,6⟩:S_api_EdSheet),(⟨(⟨#[109,105,100]⟩:ByteArray),3,6⟩:S_api_EdSheet),(⟨(⟨#[115,111,117,116,104]⟩:ByteArray),1,6⟩:S_api_EdSheet)]:List S_api_EdSheet)),.top]] ?_
  exact awp_ret gm
 ·refine awp_skip ?_
  show awp ..
  refine GA [(2,rf 0)] [q3,.data q2,q3] ?_
  obtain rfl:=oi h
  refine WB 3 [(2,rf 0)] ?_
  refine awp_freezeC 0 2 1 q2 [vi 1,.d (L66 ([(⟨(⟨#[110,111,114,116,104]⟩:ByteArray),2,6⟩:S_api_EdSheet),(⟨(⟨#[109,105,100]⟩:ByteArray),3,6⟩:S_api_EdSheet),(⟨(⟨#[115,111,117,116,104]⟩:ByteArray),1,6⟩:S_api_EdSheet)]:List S_api_EdSheet)),.sl 3 1 0 ([(⟨x1.A,x1.B,q4⟩:S_api_EdEdge),(⟨x2.A,x2.B,x2.Points⟩:S_api_EdEdge),(⟨x3.A,x3.B,x3.Points⟩:S_api_EdEdge)]:List S_api_EdEdge).length] (.sl 3 1 0 ([(⟨x1.A,x1.B,q4⟩:S_api_EdEdge),(⟨x2.A,x2.B,x2.Points⟩:S_api_EdEdge),(⟨x3.A,x3.B,x3.Points⟩:S_api_EdEdge)]:List S_api_EdEdge).length) (.d (L71 ([(⟨x1.A,x1.B,q4⟩:S_api_EdEdge),(⟨x2.A,x2.B,x2.Points⟩:S_api_EdEdge),(⟨x3.A,x3.B,x3.Points⟩:S_api_EdEdge)]:List S_api_EdEdge))) _ _ (ps:=[q2.length=([(⟨x1.A,x1.B,q4⟩:S_api_EdEdge),(⟨x2.A,x2.B,x2.Points⟩:S_api_EdEdge),(⟨x3.A,x3.B,x3.Points⟩:S_api_EdEdge)]:List S_api_EdEdge).length*3]) (by kernel_rfl) (by kernel_rfl) (by kernel_rfl) (by kernel_rfl) (flatMap_len cel71 3 cel71_len ([(⟨x1.A,x1.B,q4⟩:S_api_EdEdge),(⟨x2.A,x2.B,x2.Points⟩:S_api_EdEdge),(⟨x3.A,x3.B,x3.Points⟩:S_api_EdEdge)]:List S_api_EdEdge)) rfl rfl ?_
  refine WA 3 [(2,rf 0)] [.cells [vi 1,.d (L66 ([(⟨(⟨#[110,111,114,116,104]⟩:ByteArray),2,6⟩:S_api_EdSheet),(⟨(⟨#[109,105,100]⟩:ByteArray),3,6⟩:S_api_EdSheet),(⟨(⟨#[115,111,117,116,104]⟩:ByteArray),1,6⟩:S_api_EdSheet)]:List S_api_EdSheet)),.d (L71 ([(⟨x1.A,x1.B,q4⟩:S_api_EdEdge),(⟨x2.A,x2.B,x2.Points⟩:S_api_EdEdge),(⟨x3.A,x3.B,x3.Points⟩:S_api_EdEdge)]:List S_api_EdEdge))],.data (([]:List S_api_EdEdge).flatMap cel71),.cells [vi 1,.d (L66 ([(⟨(⟨#[110,111,114,116,104]⟩:ByteArray),2,6⟩:S_api_EdSheet),(⟨(⟨#[109,105,100]⟩:ByteArray),3,6⟩:S_api_EdSheet),(⟨(⟨#[115,111,117,116,104]⟩:ByteArray),1,6⟩:S_api_EdSheet)]:List S_api_EdSheet)),.top]] ?_
  exact awp_ret gm
theorem ct35  {lo:Int} {hi:Int} {res:S_api_Span} (h:F35 lo hi=some res):PCall Try.prog 35 [(di lo),(di hi)] (.d (.agg [(di res.Lo),(di res.Hi)])):=by
 refine PCall.of_awp tt_ok (N:=8) Try.func35 rfl (by kernel_rfl) rfl (Nat.le_of_ble_eq_true rfl) rfl ?_
 unfold F35 at h
 refine GA [(0,vi lo),(1,vi hi),(4,rf 0)] [.cells [vi 0,vi 0]] ?_
 refine GA [(4,rf 0)] [.cells [vi lo,vi hi]] ?_
 obtain rfl:=oi h
 refine WB 1 [(4,rf 0)] ?_
 exact awp_ret gm
theorem ct29 {fuel:Nat}  {p_a:(List Int)} {p_b:(List Int)} {res:Bool} (h:F29 fuel p_a p_b=some res):PCall Try.prog 29 [(L3 p_a),(L3 p_b)] (vb res):=by
 refine PCall.of_awp tt_ok (N:=26) Try.func29 rfl (by kernel_rfl) rfl (Nat.le_of_ble_eq_true rfl) rfl ?_
 unfold F29 at h
 let q1:Nat×V:=(0,.d (L3 p_a))
 let q2:Nat×V:=(1,.d (L3 p_b))
 refine GA [q1,q2] [] ?_
 refine awp_seq (HA [q1,q2,(10,vb ((p_a.length:Int) != (p_b.length:Int)))] ?_)
 refine cd h (fun hb1 h=>?_) (fun hb1 h=>?_)
 ·refine GA [(4,vb false)] [] ?_
  obtain rfl:=oi h
  refine WB 0 [(4,vb false)] ?_
  exact awp_ret gm
 ·refine awp_skip ?_
  show awp ..
  refine awp_seq (GA [q1,q2,(5,vi 0)] [] ?_)
  refine cuo h (fun (ro2:Bool)=>[(4,vb ro2)]) (fun (ro2:Bool)=>[]) (fun (so2:Unit)=>[]) (fun (so2:Unit)=>[]) (fun o2 h=>?_) (fun ro2 h=>?_) (fun so2 h=>?_)
  ·refine awp_selQ (WA 0 [q1,q2,(5,vi 0)] [] ?_)
   refine awp_block (awp_loop (n:=fuel) ?_)
   refine awpN_ind (fun n (c3:Int)=>F29L1 p_a p_b n c3) o2 (fun (c3:Int)=>[q1,q2,(5,vi c3)]) (fun (c3:Int)=>[]) (fun _=>rfl) ?_ fuel 0 h
   clear h
   intro n4 c3 h hrn4
   change F29L1 p_a p_b (n4+1) c3=some o2 at h
   rw [F29L1] at h
   refine awp_seq (GA [q1,q2,(5,vi c3),(14,vb (decide (c3<(p_a.length:Int))))] [] ?_)
   refine cd h (fun hb5 h=>?_) (fun hb5 h=>?_)
   ·refine awp_skip ?_
    show awp ..
    refine awp_seq (awp_block ?_)
    obtain ⟨x6,hx6,h⟩:=ob h
    obtain ⟨x7,hx7,h⟩:=ob h
    refine sd [0,1,5,25] [.no,.no,.cells (cel3 x6),.no,.no,.no,.cells (cel3 x7)] 8 [0,1,5,20,24,25] [q1,q2,(5,vi c3),(25,vb (x6 != x7))] [] [IX3 p_a c3 x6,IX3 p_b c3 x7] (And.intro (idxOk cel3_len hx6) (idxOk cel3_len hx7)) ?_
    refine cd h (fun hb8 h=>?_) (fun hb8 h=>?_)
    ·refine GA [(4,vb false)] [] ?_
     obtain rfl:=oi h
     refine WB 0 [(4,vb false)] ?_
     exact awp_ret (gs [] [4] OutQ.ret)
    ·refine awp_skip ?_
     show awp ..
     refine XA [q1,q2,(5,vi (w64 (c3+1)))] [] ?_
     exact gn 0 [0,1,5] (hrn4 _ h)
   ·refine awp_exit ?_
    obtain rfl:=oi h
    exact gs [] [] OutQ.norm
  ·obtain rfl:=oi h
   exact gm
  ·show awp ..
   refine GA [(4,vb true)] [] ?_
   obtain rfl:=oi h
   refine WB 0 [(4,vb true)] ?_
   exact awp_ret gm
theorem ct24 {fuel:Nat}   {res:Bool} (h:F24 fuel=some res):PCall Try.prog 24 [] (vb res):=by
 refine PCall.of_awp tt_ok (N:=164) Try.func24 rfl (by kernel_rfl) rfl (Nat.le_of_ble_eq_true rfl) rfl ?_
 unfold F24 at h
 refine GA [] [] ?_
 obtain ⟨x1,hx1,h⟩:=ob h
 obtain ⟨x2,hx2,h⟩:=ob h
 refine GB [.call [(db false)] (.d (ca x1)),.call [(db true)] (.d (ca x2))] [(1,rf 0),(2,rf 1)] [cs x1,cs x2] [PCall Try.prog 34 [(db false)] (.d (ca x1)),PCall Try.prog 34 [(db true)] (.d (ca x2))] (And.intro (ct34 hx1) (ct34 hx2)) ?_
 obtain ⟨x3,hx3,h⟩:=ob h
 let q18:Nat×V:=(4,vi x3.2)
 refine GB [.no,.call [(ca x1),(di 0)] (.tup [.d (.agg [(di x3.1.Lo),(di x3.1.Hi)]),vi x3.2])] [(1,rf 0),(2,rf 1),(3,rf 2),q18] [cs x1,cs x2,.cells [vi x3.1.Lo,vi x3.1.Hi]] [PCall Try.prog 18 [(ca x1),(di 0)] (.tup [.d (.agg [(di x3.1.Lo),(di x3.1.Hi)]),vi x3.2])] (ct18 hx3) ?_
 obtain ⟨x4,hx4,h⟩:=ob h
 let q19:Nat×V:=(5,vi x4.1)
 let q20:Nat×V:=(6,vi x4.2)
 refine HB [.no,.no,.call [(ca x1),(L3 ([4,0,0]:List Int))] (.tup [vi x4.1,vi x4.2])] [(1,rf 0),(2,rf 1),(3,rf 2),q18,q19,q20] [PCall Try.prog 20 [(ca x1),(L3 ([4,0,0]:List Int))] (.tup [vi x4.1,vi x4.2])] (ct20 hx4) ?_
 obtain ⟨x5,hx5,h⟩:=ob h
 let q25:Nat×V:=(7,vi x5.1)
 let q26:Nat×V:=(8,vi x5.2)
 refine HB [.no,.no,.call [(ca x1),(L3 ([3,0,(-1)]:List Int))] (.tup [vi x5.1,vi x5.2])] [(1,rf 0),(2,rf 1),(3,rf 2),q18,q19,q20,q25,q26] [PCall Try.prog 22 [(ca x1),(L3 ([3,0,(-1)]:List Int))] (.tup [vi x5.1,vi x5.2])] (ct22 hx5) ?_
 obtain ⟨x6,hx6,h⟩:=ob h
 let q11:List O:=[cs x1,cs x2,.cells [vi x3.1.Lo,vi x3.1.Hi],.cells [vi x6.1.Lo,vi x6.1.Hi]]
 let q27:Nat×V:=(10,vi x6.2)
 refine GB [.no,.call [(ca x1),(di 1)] (.tup [.d (.agg [(di x6.1.Lo),(di x6.1.Hi)]),vi x6.2])] [(1,rf 0),(2,rf 1),(3,rf 2),q18,q19,q20,q25,q26,(9,rf 3),q27] q11 [PCall Try.prog 25 [(ca x1),(di 1)] (.tup [.d (.agg [(di x6.1.Lo),(di x6.1.Hi)]),vi x6.2])] (ct25 hx6) ?_
 obtain ⟨x7,hx7,h⟩:=ob h
 let q17:Nat×V:=(11,.d (L3 x7.1))
 let q21:Nat×V:=(12,vi x7.2.1)
 let q22:Nat×V:=(13,vi x7.2.2)
 refine HB [.no,.call [(ca x1)] (.tup [.d (L3 x7.1),vi x7.2.1,vi x7.2.2])] [(1,rf 0),(2,rf 1),(3,rf 2),q18,q19,q20,q25,q26,(9,rf 3),q27,q17,q21,q22] [PCall Try.prog 27 [(ca x1)] (.tup [.d (L3 x7.1),vi x7.2.1,vi x7.2.2])] (ct27 hx7) ?_
 obtain ⟨x8,hx8,h⟩:=ob h
 refine HB [.no,.no,.call [(ca x1),(L3 ([3,0,0]:List Int))] (.tup [vi x8.1,vi x8.2])] [(1,rf 0),(2,rf 1),(3,rf 2),q18,q19,q20,q25,q26,(9,rf 3),q27,q17,q21,q22,(14,vi x8.1),(15,vi x8.2)] [PCall Try.prog 30 [(ca x1),(L3 ([3,0,0]:List Int))] (.tup [vi x8.1,vi x8.2])] (ct30 hx8) ?_
 obtain ⟨x9,hx9,h⟩:=ob h
 refine HB [.no,.call [(ca x1)] (.tup [.d (L3 x9.1),vi x9.2])] [(1,rf 0),(2,rf 1),(3,rf 2),q18,q19,q20,q25,q26,(9,rf 3),q27,q17,q21,q22,(14,vi x8.1),(15,vi x8.2),(16,.d (L3 x9.1)),(17,vi x9.2)] [PCall Try.prog 40 [(ca x1)] (.tup [.d (L3 x9.1),vi x9.2])] (ct40 hx9) ?_
 obtain ⟨x10,hx10,h⟩:=ob h
 refine HB [.no,.call [(ca x2)] (.tup [.d (L3 x10.1),vi x10.2])] [(1,rf 0),(2,rf 1),(3,rf 2),q18,q19,q20,q25,q26,(9,rf 3),q27,q17,q21,q22,(14,vi x8.1),(15,vi x8.2),(16,.d (L3 x9.1)),(17,vi x9.2),(18,.d (L3 x10.1)),(19,vi x10.2)] [PCall Try.prog 32 [(ca x2)] (.tup [.d (L3 x10.1),vi x10.2])] (ct32 hx10) ?_
 obtain ⟨x11,hx11,h⟩:=ob h
 refine HB [.no,.call [(ca x2)] (.tup [.d (L3 x11.1),vi x11.2.1,vi x11.2.2])] [(1,rf 0),(3,rf 2),q18,q19,q20,q25,q26,(9,rf 3),q27,q17,q21,q22,(14,vi x8.1),(15,vi x8.2),(16,.d (L3 x9.1)),(17,vi x9.2),(18,.d (L3 x10.1)),(19,vi x10.2),(22,vi x11.2.2)] [PCall Try.prog 27 [(ca x2)] (.tup [.d (L3 x11.1),vi x11.2.1,vi x11.2.2])] (ct27 hx11) ?_
 refine awp_seq (HB [] [(1,rf 0),(3,rf 2),q18,q19,q20,q25,q26,(9,rf 3),q27,q17,q21,q22,(14,vi x8.1),(15,vi x8.2),(16,.d (L3 x9.1)),(18,.d (L3 x10.1)),(19,vi x10.2),(22,vi x11.2.2),(83,vb (cond (x9.2 != 0) true ((x9.1.length:Int) != 3)))] [((!(x9.2 != 0))=true→(!(x9.2 != 0))=true),((!(x9.2 != 0))=true→(!(x9.2 != 0))=true),((x9.2 != 0)=false→(!(x9.2 != 0))=true)] (And.intro (id) (And.intro (id) (not_of))) ?_)
 refine cd h (fun hb12 h=>?_) (fun hb12 h=>?_)
 ·refine GA [(0,vb false)] q11 ?_
  obtain rfl:=oi h
  refine WB 4 [(0,vb false)] ?_
  exact awp_ret gm
 ·refine awp_skip ?_
  show awp ..
  obtain ⟨x13,hx13,h⟩:=ob h
  refine GB [.no,.no,.call [(ca x1),(L3 x9.1)] (.tup [vi x13.1,vi x13.2])] [(3,rf 2),q18,q19,q20,q25,q26,(9,rf 3),q27,q17,q21,q22,(14,vi x8.1),(15,vi x8.2),(18,.d (L3 x10.1)),(19,vi x10.2),(22,vi x11.2.2),(23,vi x13.1),(24,vi x13.2)] q11 [PCall Try.prog 30 [(ca x1),(L3 x9.1)] (.tup [vi x13.1,vi x13.2])] (ct30 hx13) ?_
  obtain ⟨x14,hx14,h⟩:=ob h
  obtain ⟨x15,hx15,h⟩:=ob h
  obtain ⟨x16,hx16,h⟩:=ob h
  obtain ⟨x17,hx17,h⟩:=ob h
  let q13:=(cond (x3.2==0) (x4.2==0) false)
  let q5:=(cond q13 (x5.2==0) false)
  let q15:=(cond q5 (x6.2==0) false)
  let q8:=(cond q15 (x7.2.2==0) false)
  let q3:=(cond q8 (x8.2==0) false)
  let q14:=(cond q3 (x10.2==0) false)
  let q6:=(cond q14 (x13.2==0) false)
  let q9:=(cond q6 (x11.2.2==9) false)
  let q1:=(cond q9 ((x3.1.Lo==x14.Lo)&&(x3.1.Hi==x14.Hi)) false)
  let q16:=(cond q1 (x4.1==1) false)
  let q7:=(cond q16 (x5.1==7) false)
  let q2:=(cond q7 ((x6.1.Lo==x15.Lo)&&(x6.1.Hi==x15.Hi)) false)
  let q23:=(cond q2 x16 false)
  let q10:=(cond q23 (x7.2.1==7) false)
  let q4:=(cond q10 (x8.1==3) false)
  let q12:=(cond q4 (x13.1==7) false)
  let q24:St:=[(0,vb (F24e1 x3 x4 x5 x6 x7 x8 x10 x13 x11 x14 x15 x16 x17))]
  refine hd [0] [.no,.no,.no,.no,.no,.no,.no,.no,.no,.no,.no,.no,.no,.no,.no,.no,.no,.no,.no,.no,.no,.no,.no,.no,.no,.no,.no,.no,.no,.no,.no,.no,.no,.no,.no,.no,.call [(di 3),(di 4)] (.d (.agg [(di x14.Lo),(di x14.Hi)])),.no,.no,.no,.no,.no,.no,.no,.no,.no,.no,.no,.no,.call [(di (-5)),(di 3)] (.d (.agg [(di x15.Lo),(di x15.Hi)])),.no,.no,.no,.no,.no,.call [(L3 x7.1),(L3 ([3,0,(-1)]:List Int))] (vb x16),.no,.no,.no,.no,.no,.no,.no,.no,.no,.no,.no,.no,.no,.no,.no,.no,.call [(L3 x10.1),(L3 ([3]:List Int))] (vb x17)] 72 [0,159,160,161,162,163] q24 [((x3.2==0)=true→(x3.2==0)=true),((x3.2==0)=true→(x3.2==0)=true),(q13=true→q13=true),(q13=true→q13=true),(q5=true→q5=true),(q5=true→q5=true),(q15=true→q15=true),(q15=true→q15=true),(q8=true→q8=true),(q8=true→q8=true),(q3=true→q3=true),(q3=true→q3=true),(q14=true→q14=true),(q14=true→q14=true),(q6=true→q6=true),(q6=true→q6=true),(q9=true→PCall Try.prog 35 [(di 3),(di 4)] (.d (.agg [(di x14.Lo),(di x14.Hi)]))),(q9=true→q9=true),(q9=true→q9=true),(q9=true→q9=true),(q1=true→q1=true),(q1=true→q1=true),(q16=true→q16=true),(q16=true→q16=true),(q7=true→PCall Try.prog 35 [(di (-5)),(di 3)] (.d (.agg [(di x15.Lo),(di x15.Hi)]))),(q7=true→q7=true),(q7=true→q7=true),(q7=true→q7=true),(q2=true→q2=true),(q2=true→q2=true),(q2=true→PCall Try.prog 29 [(L3 x7.1),(L3 ([3,0,(-1)]:List Int))] (vb x16)),(q2=true→q2=true),(q23=true→q23=true),(q23=true→q23=true),(q10=true→q10=true),(q10=true→q10=true),(q4=true→q4=true),(q4=true→q4=true),(q12=true→q12=true),(q12=true→q12=true),(q12=true→PCall Try.prog 29 [(L3 x10.1),(L3 ([3]:List Int))] (vb x17)),(q12=true→q12=true)] (And.intro (id) (And.intro (id) (And.intro (id) (And.intro (id) (And.intro (id) (And.intro (id) (And.intro (id) (And.intro (id) (And.intro (id) (And.intro (id) (And.intro (id) (And.intro (id) (And.intro (id) (And.intro (id) (And.intro (id) (And.intro (id) (And.intro ((fun hg=>ct35 (optG_of hx14 hg))) (And.intro (id) (And.intro (id) (And.intro (id) (And.intro (id) (And.intro (id) (And.intro (id) (And.intro (id) (And.intro ((fun hg=>ct35 (optG_of hx15 hg))) (And.intro (id) (And.intro (id) (And.intro (id) (And.intro (id) (And.intro (id) (And.intro ((fun hg=>ct29 (optG_of hx16 hg))) (And.intro (id) (And.intro (id) (And.intro (id) (And.intro (id) (And.intro (id) (And.intro (id) (And.intro (id) (And.intro (id) (And.intro (id) (And.intro ((fun hg=>ct29 (optG_of hx17 hg))) (id)))))))))))))))))))))))))))))))))))))))))) ?_
  obtain rfl:=oi h
  refine WB 4 q24 ?_
  exact awp_ret gm
end Go.Proofs.Ytallnifoeahpiaa
