/- That functions of the seat compute this. Printed by a program of mine. -/
import Derived.Test.YtallnifoeahpiaaS
import Derived.Test.YtallnifoeahpiaaCED
import Derived.Test.YtallnifoeahpiaaCEG
import Derived.Test.YtallnifoeahpiaaCLV
import Derived.Test.YtallnifoeahpiaaCW
import Derived.Test.YtallnifoeahpiaaDLJ
namespace Go.Proofs.Ytallnifoeahpiaa
open Go Go.Sx
set_option maxRecDepth 100000
set_option linter.unusedVariables false
theorem ct12 {fuel:Nat}  {p_c:S_api_EdCase} {p_x:S_api_EdEdge} {which:S__2quint8} {res:Bool} (h:F12 fuel p_c p_x which=some res):PCall Try.prog 12 [(ca p_c),(.agg [(di p_x.A),(di p_x.B),(L74 p_x.Points)]),(.agg [(.v (.int .u8 which.e0)),(.v (.int .u8 which.e1))])] (vb res):=by
 refine PCall.of_awp tt_ok (N:=162) Try.func12 rfl (by kernel_rfl) rfl (Nat.le_of_ble_eq_true rfl) rfl ?_
 unfold F12 at h
 let q3:O:=.cells [.d (.v (.int .u8 which.e0)),.d (.v (.int .u8 which.e1))]
 let q5:O:=.cells [vi p_x.A,vi p_x.B,.d (L74 p_x.Points)]
 refine GA [(3,rf 0),(4,rf 1),(5,rf 2)] [cs p_c,q5,q3] ?_
 refine awp_seq ?_
 obtain ⟨x1,hx1,h⟩:=ob h
 refine HB [.no,.call [(ca p_c)] (vb x1)] [(3,rf 0),(4,rf 1),(5,rf 2),(22,vb (!x1))] [PCall Try.prog 36 [(ca p_c)] (vb x1)] (ct36 hx1) ?_
 refine cd h (fun hb2 h=>?_) (fun hb2 h=>?_)
 ·obtain ⟨x3,hx3,h⟩:=ob h
  refine GB [.call [] (vb x3)] [(6,vb x3)] [cs p_c,q5,q3] [PCall Try.prog 24 [] (vb x3)] (ct24 hx3) ?_
  obtain rfl:=oi h
  refine WB 3 [(6,vb x3)] ?_
  exact awp_ret gm
 ·refine awp_skip ?_
  show awp ..
  refine GA [(3,rf 0),(4,rf 1),(5,rf 2),(7,rf 3)] [cs p_c,q5,q3,cs p_c] ?_
  obtain ⟨x4,hx4,h⟩:=ob h
  let q25:=([]:List S_api_EdEdge)
  let q4:=(q25++p_c.Edges)
  let q12:O:=.cells [vi p_c.Tol,.d (L66 p_c.Sheets),.sl 3 4 0 q4.length]
  let q24:O:=.data (q4.flatMap cel71)
  refine GB [.own,.no,.no,.list q4.length (q4.flatMap cel71)] [(3,rf 0),(4,rf 1),(5,rf 2),(7,rf 3)] [cs p_c,q5,q3,q12,q24] [AppendOk ((q25.flatMap cel71).map .d) q25.length p_c.Edges.length q4.length 3 40 (p_c.Edges.flatMap cel71) (q4.flatMap cel71)] (appendOk cel71_len (need_of hx4)) ?_
  let q10:=(IntKind.i64.wrap which.e0)
  refine awp_seq (HB [] [(3,rf 0),(4,rf 1),(5,rf 2),(7,rf 3),(8,vi q10)] [(0≤(0:Int)∧(0:Int)<(2:Int))] ((by decide:0≤(0:Int)∧(0:Int)<(2:Int))) ?_)
  let q7:=(decide (q10<(p_c.Edges.length:Int)))
  refine HB [] [(3,rf 0),(4,rf 1),(5,rf 2),(7,rf 3),(8,vi q10),(43,vb (cond q7 (decide ((p_x.Points.length:Int)>0)) false))] [(q7=true→q7=true),(q7=true→q7=true),(q7=true→q7=true),(q7=true→q7=true)] (And.intro (id) (And.intro (id) (And.intro (id) (id)))) ?_
  let q23:St:=[(3,rf 0),(5,rf 2),(7,rf 3)]
  refine cuo h (fun (ro5:Bool)=>[(6,vb ro5)]) (fun (ro5:Bool)=>[]) (fun (so5:(List S_api_EdEdge))=>[(3,rf 0),(5,rf 2),(7,rf 3)]) (fun (so5:(List S_api_EdEdge))=>[cs p_c,q5,q3,.cells [vi p_c.Tol,.d (L66 p_c.Sheets),.sl 3 4 0 so5.length],.data (so5.flatMap cel71)]) (fun o5 h=>?_) (fun ro5 h=>?_) (fun so5 h=>?_)
  ·refine awp_selQ (cd h (fun hb6 h=>?_) (fun hb6 h=>?_))
   ·refine awp_res [cs p_c,q5,q3,q12,q24,.data []] (by kernel_rfl) ?_
    obtain ⟨x12,hx12,h⟩:=ob h
    obtain ⟨x13,hx13,h⟩:=ob h
    obtain ⟨x14,hx14,h⟩:=ob h
    obtain ⟨x15,hx15,h⟩:=ob h
    obtain ⟨x16,hx16,h⟩:=ob h
    let q22:=([]:List S_api_EdPoint)
    let q13:=(q22++x12.Points)
    let q2:=(q13++([x14]:List S_api_EdPoint))
    let q18:=(q4.set q10.toNat (⟨x16.A,x16.B,q2⟩:S_api_EdEdge))
    refine awp_anyS tt_ok mixed 19 [.no,.no,.no,.res 5,.no,.no,.no,.cells (cel71 x12),.no,.no,.app 5 [47] [] q13.length (q13.flatMap cel74),.no,.no,.cells (cel74 x14),.no,.no,.app 5 [47,54] [] q2.length (q2.flatMap cel74)] [.cells (q18.flatMap cel71)] [3,5,7,60,62] [3,5,7] [(3,rf 0),(5,rf 2),(7,rf 3),(60,.sl 2 5 0 q2.length),(62,.ref 4 (0+q10.toNat*3+2))] [cs p_c,q5,q3,q12,q24,.data (q2.flatMap cel74)] [IX71 p_c.Edges q10 x12,AppendOk ((q22.flatMap cel74).map .d) q22.length x12.Points.length q13.length 2 16 (x12.Points.flatMap cel74) (q13.flatMap cel74),IX74 p_x.Points 0 x14,AppendOk ((q13.flatMap cel74).map .d) q13.length ([x14]:List S_api_EdPoint).length q2.length 2 16 (([x14]:List S_api_EdPoint).flatMap cel74) (q2.flatMap cel74),(0≤q10∧q10<(q4.length:Int))] [(3,rf 0),(5,rf 2),(7,rf 3),(60,.d (L74 q2)),(62,.ref 4 (0+q10.toNat*3+2))] [cs p_c,q5,q3,q12,q24,.data (q22.flatMap cel74)] q23 [cs p_c,q5,q3,q12,.data (q18.flatMap cel71),.data (q22.flatMap cel74)] [StoreOk ((q4.flatMap cel71).map .d) (0+q10.toNat*3+2) (([(L74 q2)]:List D).map .d) ((q18.flatMap cel71).map .d)] (by kernel_rfl) (And.intro (idxOk cel71_len hx12) (And.intro (appendOk cel74_len (need_of hx13)) (And.intro (idxOk cel74_len hx14) (And.intro (appendOk cel74_len (need_of hx15)) (idx_bounds hx16))))) (IStep.freeze 60 5 (q2.flatMap cel74) (.sl 2 5 0 q2.length) (.d (L74 q2)) [3,5,7,60,62] (ps:=[(q2.flatMap cel74).length=q2.length*2]) (by kernel_rfl) (by kernel_rfl) (by kernel_rfl) (flatMap_len cel74 2 cel74_len q2) (by kernel_rfl) (by kernel_rfl)) (by kernel_rfl) (storeOk (j:=2) (us:=([(L74 q2)]:List D)) (y:=(⟨x16.A,x16.B,q2⟩:S_api_EdEdge)) cel71_len hx16 rfl rfl (Nat.le_of_ble_eq_true rfl)) ?_
    refine q_eq (T':=[(3,rf 0),(5,rf 2),(7,rf 3)]) (H':=[cs p_c,.cells [vi p_x.A,vi p_x.B,.d (L74 p_x.Points)],.cells [.d (.v (.int .u8 which.e0)),.d (.v (.int .u8 which.e1))],.cells [vi p_c.Tol,.d (L66 p_c.Sheets),.sl 3 4 0 ((([]:List S_api_EdEdge)++p_c.Edges).set (IntKind.i64.wrap which.e0).toNat (⟨x16.A,x16.B,((([]:List S_api_EdPoint)++x12.Points)++([x14]:List S_api_EdPoint))⟩:S_api_EdEdge)).length],.data (((([]:List S_api_EdEdge)++p_c.Edges).set (IntKind.i64.wrap which.e0).toNat (⟨x16.A,x16.B,((([]:List S_api_EdPoint)++x12.Points)++([x14]:List S_api_EdPoint))⟩:S_api_EdEdge)).flatMap cel71),.data (([]:List S_api_EdPoint).flatMap cel74)]) rfl (by first|(simp +zetaDelta only [List.length_set];done)|(simp +zetaDelta only [len_copy];done)|simp +zetaDelta only [List.length_set,len_copy]) ?_
    obtain rfl:=oi h
    exact gs [0,1,2,3,4] [3,5,7] OutQ.norm
   ·obtain ⟨x17,hx17,h⟩:=ob h
    let q15:=(q4++([p_x]:List S_api_EdEdge))
    refine XB [.no,.no,.no,.no,.list q15.length (q15.flatMap cel71)] q23 [cs p_c,q5,q3,.cells [vi p_c.Tol,.d (L66 p_c.Sheets),.sl 3 4 0 q15.length],.data (q15.flatMap cel71)] [AppendOk ((q4.flatMap cel71).map .d) q4.length ([p_x]:List S_api_EdEdge).length q15.length 3 40 (([p_x]:List S_api_EdEdge).flatMap cel71) (q15.flatMap cel71)] (appendOk cel71_len (need_of hx17)) ?_
    obtain rfl:=oi h
    exact gs [0,1,2,3,4] [3,5,7] OutQ.norm
  ·obtain rfl:=oi h
   exact gm
  ·show awp ..
   refine awp_seq (awp_freezeC 3 2 4 (so5.flatMap cel71) [vi p_c.Tol,.d (L66 p_c.Sheets),.sl 3 4 0 so5.length] (.sl 3 4 0 so5.length) (.d (L71 so5)) _ _ (ps:=[(so5.flatMap cel71).length=so5.length*3]) (by kernel_rfl) (by kernel_rfl) (by kernel_rfl) (by kernel_rfl) (flatMap_len cel71 3 cel71_len so5) rfl rfl ?_)
   let q9:O:=.cells [vi p_c.Tol,.d (L66 p_c.Sheets),.d (L71 so5)]
   let q11:O:=.data (q25.flatMap cel71)
   refine WA 5 q23 [cs p_c,q5,q3,q9,q11] ?_
   obtain ⟨x18,hx18,h⟩:=ob h
   refine HB [.no,.call [(.agg [(di p_c.Tol),(L66 p_c.Sheets),(L71 so5)])] (vb x18)] [(3,rf 0),(5,rf 2),(7,rf 3),(71,vb (!x18))] [PCall Try.prog 36 [(.agg [(di p_c.Tol),(L66 p_c.Sheets),(L71 so5)])] (vb x18)] (ct36 hx18) ?_
   refine cd h (fun hb19 h=>?_) (fun hb19 h=>?_)
   ·obtain ⟨x20,hx20,h⟩:=ob h
    refine GB [.call [] (vb x20)] [(6,vb x20)] [cs p_c,q5,q3,q9,q11] [PCall Try.prog 24 [] (vb x20)] (ct24 hx20) ?_
    obtain rfl:=oi h
    refine WB 5 [(6,vb x20)] ?_
    exact awp_ret gm
   ·refine awp_skip ?_
    show awp ..
    obtain ⟨x21,hx21,h⟩:=ob h
    let q17:=(IntKind.i64.wrap which.e1)
    let q19:=(p_c.Sheets.length:Int)
    refine GB [] [(3,rf 0),(7,rf 3),(9,vi (q17.tmod q19))] [cs p_c,q5,q3,q9,q11] [(0≤(1:Int)∧(1:Int)<(2:Int)),((p_c.Sheets.length:Int)≠0)] (And.intro ((by decide:0≤(1:Int)∧(1:Int)<(2:Int))) ((need_of hx21:(p_c.Sheets.length:Int)≠0))) ?_
    obtain ⟨x22,hx22,h⟩:=ob h
    let q20:O:=.cells [vi x22.1.Lo,vi x22.1.Hi]
    refine GB [.no,.no,.call [(ca p_c),(di (q17.tmod q19))] (.tup [.d (.agg [(di x22.1.Lo),(di x22.1.Hi)]),vi x22.2])] [(3,rf 0),(7,rf 3),(9,vi (q17.tmod q19)),(10,rf 5),(11,vi x22.2)] [cs p_c,q5,q3,q9,q11,q20] [PCall Try.prog 25 [(ca p_c),(di (q17.tmod q19))] (.tup [.d (.agg [(di x22.1.Lo),(di x22.1.Hi)]),vi x22.2])] (ct25 hx22) ?_
    obtain ⟨x23,hx23,h⟩:=ob h
    let q26:O:=.cells [vi x23.1.Lo,vi x23.1.Hi]
    refine GB [.no,.no,.call [(.agg [(di p_c.Tol),(L66 p_c.Sheets),(L71 so5)]),(di (q17.tmod q19))] (.tup [.d (.agg [(di x23.1.Lo),(di x23.1.Hi)]),vi x23.2])] [(3,rf 0),(7,rf 3),(10,rf 5),(11,vi x22.2),(12,rf 6),(13,vi x23.2)] [cs p_c,q5,q3,q9,q11,q20,q26] [PCall Try.prog 25 [(.agg [(di p_c.Tol),(L66 p_c.Sheets),(L71 so5)]),(di (q17.tmod q19))] (.tup [.d (.agg [(di x23.1.Lo),(di x23.1.Hi)]),vi x23.2])] (ct25 hx23) ?_
    obtain ⟨x24,hx24,h⟩:=ob h
    refine HB [.no,.call [(ca p_c)] (.tup [.d (L3 x24.1),vi x24.2.1,vi x24.2.2])] [(7,rf 3),(10,rf 5),(11,vi x22.2),(12,rf 6),(13,vi x23.2),(15,vi x24.2.1),(16,vi x24.2.2)] [PCall Try.prog 27 [(ca p_c)] (.tup [.d (L3 x24.1),vi x24.2.1,vi x24.2.2])] (ct27 hx24) ?_
    obtain ⟨x25,hx25,h⟩:=ob h
    refine HB [.no,.call [(.agg [(di p_c.Tol),(L66 p_c.Sheets),(L71 so5)])] (.tup [.d (L3 x25.1),vi x25.2.1,vi x25.2.2])] [(10,rf 5),(11,vi x22.2),(12,rf 6),(13,vi x23.2),(15,vi x24.2.1),(16,vi x24.2.2),(18,vi x25.2.1),(19,vi x25.2.2)] [PCall Try.prog 27 [(.agg [(di p_c.Tol),(L66 p_c.Sheets),(L71 so5)])] (.tup [.d (L3 x25.1),vi x25.2.1,vi x25.2.2])] (ct27 hx25) ?_
    refine awp_seq (HA [(10,rf 5),(11,vi x22.2),(12,rf 6),(13,vi x23.2),(15,vi x24.2.1),(16,vi x24.2.2),(18,vi x25.2.1),(19,vi x25.2.2),(105,vb (x23.2 != 0))] ?_)
    refine cd h (fun hb26 h=>?_) (fun hb26 h=>?_)
    ·obtain ⟨x27,hx27,h⟩:=ob h
     let q14:St:=[(6,vb (cond (cond (cond (cond (x23.2==9) (x25.2.2==x23.2) false) (cond (x22.2==0) true (x22.2==x23.2)) false) (x24.2.2==x22.2) false) x27 false))]
     refine GB [.no,.no,.no,.no,.no,.no,.no,.no,.no,.no,.no,.no,.no,.no,.own,.no,.no,.no,.no,.no,.no,.no,.call [] (vb x27)] q14 [cs p_c,q5,q3,q9,q11,q20,q26] [((x23.2==9)=true→(x23.2==9)=true),((x23.2==9)=true→(x23.2==9)=true),((x23.2==9)=true→(x23.2==9)=true),((cond (x23.2==9) (x25.2.2==x23.2) false)=true→(cond (x23.2==9) (x25.2.2==x23.2) false)=true),((cond (x23.2==9) (x25.2.2==x23.2) false)=true→(cond (x23.2==9) (x25.2.2==x23.2) false)=true),(((cond (x23.2==9) (x25.2.2==x23.2) false)&&(!(x22.2==0)))=true→((cond (x23.2==9) (x25.2.2==x23.2) false)&&(!(x22.2==0)))=true),(((cond (x23.2==9) (x25.2.2==x23.2) false)&&(!(x22.2==0)))=true→((cond (x23.2==9) (x25.2.2==x23.2) false)&&(!(x22.2==0)))=true),((cond (x23.2==9) (x25.2.2==x23.2) false)=true→(cond (x23.2==9) (x25.2.2==x23.2) false)=true),((cond (x23.2==9) (x25.2.2==x23.2) false)=true→(x22.2==0)=false→((cond (x23.2==9) (x25.2.2==x23.2) false)&&(!(x22.2==0)))=true),((cond (x23.2==9) (x25.2.2==x23.2) false)=true→(cond (x23.2==9) (x25.2.2==x23.2) false)=true),((cond (cond (x23.2==9) (x25.2.2==x23.2) false) (cond (x22.2==0) true (x22.2==x23.2)) false)=true→(cond (cond (x23.2==9) (x25.2.2==x23.2) false) (cond (x22.2==0) true (x22.2==x23.2)) false)=true),((cond (cond (x23.2==9) (x25.2.2==x23.2) false) (cond (x22.2==0) true (x22.2==x23.2)) false)=true→(cond (cond (x23.2==9) (x25.2.2==x23.2) false) (cond (x22.2==0) true (x22.2==x23.2)) false)=true),((cond (cond (x23.2==9) (x25.2.2==x23.2) false) (cond (x22.2==0) true (x22.2==x23.2)) false)=true→(cond (cond (x23.2==9) (x25.2.2==x23.2) false) (cond (x22.2==0) true (x22.2==x23.2)) false)=true),((cond (cond (cond (x23.2==9) (x25.2.2==x23.2) false) (cond (x22.2==0) true (x22.2==x23.2)) false) (x24.2.2==x22.2) false)=true→PCall Try.prog 24 [] (vb x27)),((cond (cond (cond (x23.2==9) (x25.2.2==x23.2) false) (cond (x22.2==0) true (x22.2==x23.2)) false) (x24.2.2==x22.2) false)=true→(cond (cond (cond (x23.2==9) (x25.2.2==x23.2) false) (cond (x22.2==0) true (x22.2==x23.2)) false) (x24.2.2==x22.2) false)=true)] (And.intro (id) (And.intro (id) (And.intro (id) (And.intro (id) (And.intro (id) (And.intro (id) (And.intro (id) (And.intro (id) (And.intro ((fun hg h1=>by first|exact hg|exact h1|(rw [hg,h1];rfl)|(simp only [hg,h1,Bool.not_true,Bool.not_false,Bool.and_self,Bool.true_and,Bool.and_true];done)|(simp only [Bool.and_eq_true] at hg;simp only [hg,h1,Bool.not_true,Bool.not_false,Bool.and_self,Bool.true_and,Bool.and_true];done)|simp_all)) (And.intro (id) (And.intro (id) (And.intro (id) (And.intro (id) (And.intro ((fun hg=>ct24 (optG_of hx27 hg))) (id))))))))))))))) ?_
     obtain rfl:=oi h
     refine WB 7 q14 ?_
     exact awp_ret gm
    ·refine awp_skip ?_
     show awp ..
     obtain ⟨x28,hx28,h⟩:=ob h
     let q16:=(cond (x22.2==0) (x24.2.2==0) false)
     let q6:=(cond q16 (x25.2.2==0) false)
     let q1:=(cond q6 (decide (x23.1.Lo≥x22.1.Lo)) false)
     let q8:=(cond q1 (decide (x23.1.Hi≤x22.1.Hi)) false)
     let q21:=(cond q8 (decide (x25.2.1≥x24.2.1)) false)
     refine GB [.no,.no,.no,.no,.no,.no,.no,.no,.no,.no,.no,.no,.no,.no,.no,.no,.no,.no,.no,.no,.no,.no,.no,.no,.no,.no,.no,.no,.no,.no,.call [] (vb x28)] [(6,vb (F12e1 x22 x24 x25 x23 x28))] [cs p_c,q5,q3,q9,q11,q20,q26] [((x22.2==0)=true→(x22.2==0)=true),((x22.2==0)=true→(x22.2==0)=true),(q16=true→q16=true),(q16=true→q16=true),(q6=true→q6=true),(q6=true→q6=true),(q6=true→q6=true),(q6=true→q6=true),(q6=true→q6=true),(q1=true→q1=true),(q1=true→q1=true),(q1=true→q1=true),(q1=true→q1=true),(q1=true→q1=true),(q8=true→q8=true),(q8=true→q8=true),(q8=true→q8=true),(q21=true→PCall Try.prog 24 [] (vb x28)),(q21=true→q21=true)] (And.intro (id) (And.intro (id) (And.intro (id) (And.intro (id) (And.intro (id) (And.intro (id) (And.intro (id) (And.intro (id) (And.intro (id) (And.intro (id) (And.intro (id) (And.intro (id) (And.intro (id) (And.intro (id) (And.intro (id) (And.intro (id) (And.intro (id) (And.intro ((fun hg=>ct24 (optG_of hx28 hg))) (id))))))))))))))))))) ?_
     obtain rfl:=oi h
     refine WB 7 [(6,vb (F12e1 x22 x24 x25 x23 x28))] ?_
     exact awp_ret gm
end Go.Proofs.Ytallnifoeahpiaa
