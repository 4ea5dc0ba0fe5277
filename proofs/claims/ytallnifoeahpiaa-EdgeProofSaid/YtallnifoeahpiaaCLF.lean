/- That functions of the seat compute this. Printed by a program of mine. -/
import Derived.Test.YtallnifoeahpiaaS
import Derived.Test.YtallnifoeahpiaaCEE
import Derived.Test.YtallnifoeahpiaaCEG
import Derived.Test.YtallnifoeahpiaaCEH
import Derived.Test.YtallnifoeahpiaaCLU
import Derived.Test.YtallnifoeahpiaaCLV
import Derived.Test.YtallnifoeahpiaaCRB
import Derived.Test.YtallnifoeahpiaaCW
import Derived.Test.YtallnifoeahpiaaDLF
namespace Go.Proofs.Ytallnifoeahpiaa
open Go Go.Sx
set_option maxRecDepth 100000
set_option linter.unusedVariables false
theorem ct42 {fuel:Nat}  {p_c:S_api_EdCase} {res:Int} (h:F42 fuel p_c=some res):PCall Try.prog 42 [(ca p_c)] (vi res):=by
 refine PCall.of_awp tt_ok (N:=28) Try.func42 rfl (by kernel_rfl) rfl (Nat.le_of_ble_eq_true rfl) rfl ?_
 unfold F42 at h
 refine GA [(1,rf 0)] [cs p_c] ?_
 refine HA [(1,rf 0),(3,vi 0)] ?_
 refine awp_seq (HA [(1,rf 0),(3,vi 0),(4,vi 0)] ?_)
 refine cuo h (fun (ro1:Int)=>[(2,vi ro1)]) (fun (ro1:Int)=>[]) (fun (so1:Int)=>[(3,vi so1)]) (fun (so1:Int)=>[cs p_c]) (fun o1 h=>?_) (fun ro1 h=>?_) (fun so1 h=>?_)
 ·refine awp_selQ (WA 1 [(1,rf 0),(3,vi 0),(4,vi 0)] [cs p_c] ?_)
  refine awp_block (awp_loop (n:=fuel) ?_)
  refine awpN_ind (fun n (c2:Int×Int)=>F42L1 p_c n c2) o1 (fun (c2:Int×Int)=>[(1,rf 0),(3,vi c2.1),(4,vi c2.2)]) (fun (c2:Int×Int)=>[cs p_c]) (fun _=>rfl) ?_ fuel (0,0) h
  clear h
  intro n3 c2 h hrn3
  change F42L1 p_c (n3+1) c2=some o1 at h
  rw [F42L1] at h
  refine awp_seq (GA [(1,rf 0),(3,vi c2.1),(4,vi c2.2),(9,vb (decide (c2.2<(p_c.Sheets.length:Int))))] [cs p_c] ?_)
  refine cd h (fun hb4 h=>?_) (fun hb4 h=>?_)
  ·refine awp_skip ?_
   show awp ..
   refine awp_seq (awp_block ?_)
   obtain ⟨x5,hx5,h⟩:=ob h
   obtain ⟨x6,hx6,h⟩:=ob h
   refine awp_any (T':=[(1,rf 0),(3,vi (w64 (c2.1+(w64 (x5.Weight*x6.Most))))),(4,vi c2.2)]) (H':=[cs p_c]) (ps:=[IX66 p_c.Sheets c2.2 x5,IX66 p_c.Sheets c2.2 x6]) tt_ok mixed (ks:=[1,3,4]) (hs:=[.no,.no,.no,.no,.cells (cel66 x5),.no,.no,.no,.no,.no,.cells (cel66 x6)]) (m:=14) (mid:=[1,3,4,12,25,26]) (by kernel_rfl) (And.intro (idxOk cel66_len hx5) (idxOk cel66_len hx6)) ?_
   show awp ..
   refine XA [(1,rf 0),(3,vi (w64 (c2.1+(w64 (x5.Weight*x6.Most))))),(4,vi (w64 (c2.2+1)))] [cs p_c] ?_
   exact gn 1 [1,3,4] (hrn3 _ h)
  ·refine awp_exit ?_
   obtain rfl:=oi h
   exact gs [0] [3] OutQ.norm
 ·obtain rfl:=oi h
  exact gm
 ·show awp ..
  refine GA [(2,vi so1)] [cs p_c] ?_
  obtain rfl:=oi h
  refine WB 1 [(2,vi so1)] ?_
  exact awp_ret gm
theorem ct8 {fuel:Nat}  {p_c:S_api_EdCase} {proof:(List Int)} {p_x:(List Int)} {res:Bool} (h:F8 fuel p_c proof p_x=some res):PCall Try.prog 8 [(ca p_c),(L54 proof),(L5 p_x)] (vb res):=by
 refine PCall.of_awp tt_ok (N:=176) Try.func8 rfl (by kernel_rfl) rfl (Nat.le_of_ble_eq_true rfl) rfl ?_
 unfold F8 at h
 let q2:Nat×V:=(1,.d (L54 proof))
 let q3:Nat×V:=(2,.d (L5 p_x))
 refine GA [q2,q3,(3,rf 0)] [cs p_c] ?_
 obtain ⟨x1,hx1,h⟩:=ob h
 let q16:Nat×V:=(7,.d (L3 x1.1))
 refine HB [.no,.call [(ca p_c)] (.tup [.d (L3 x1.1),vi x1.2])] [q2,q3,(3,rf 0),q16,(8,vi x1.2)] [PCall Try.prog 40 [(ca p_c)] (.tup [.d (L3 x1.1),vi x1.2])] (ct40 hx1) ?_
 obtain ⟨x2,hx2,h⟩:=ob h
 let q5:Nat×V:=(10,vi x2.2.1)
 let q6:Nat×V:=(11,vi x2.2.2)
 refine HB [.no,.call [(ca p_c)] (.tup [.d (L3 x2.1),vi x2.2.1,vi x2.2.2])] [q2,q3,(3,rf 0),q16,(8,vi x1.2),(9,.d (L3 x2.1)),q5,q6] [PCall Try.prog 27 [(ca p_c)] (.tup [.d (L3 x2.1),vi x2.2.1,vi x2.2.2])] (ct27 hx2) ?_
 refine awp_seq ?_
 obtain ⟨x3,hx3,h⟩:=ob h
 obtain ⟨x4,hx4,h⟩:=ob h
 refine HB [.no,.call [(ca p_c)] (vb x3),.no,.no,.no,.call [(ca p_c)] (vb x4)] [q2,q3,(3,rf 0),q16,(8,vi x1.2),(9,.d (L3 x2.1)),q5,q6,(40,vb (cond (!x3) true (!x4)))] [PCall Try.prog 36 [(ca p_c)] (vb x3),((!(!x3))=true→(!(!x3))=true),((!(!x3))=true→PCall Try.prog 41 [(ca p_c)] (vb x4)),((!(!x3))=true→(!(!x3))=true),((!x3)=false→(!(!x3))=true)] (And.intro (ct36 hx3) (And.intro (id) (And.intro ((fun hg=>ct41 (optG_of hx4 hg))) (And.intro (id) (not_of))))) ?_
 refine cd h (fun hb5 h=>?_) (fun hb5 h=>?_)
 ·obtain ⟨x6,hx6,h⟩:=ob h
  let q7:=(cond (x1.2 != 0) (x2.2.2 != 0) false)
  let q1:=(cond q7 ((x1.1.length:Int)==0) false)
  let q10:=(cond q1 ((x2.1.length:Int)==0) false)
  refine GB [.no,.no,.no,.no,.no,.no,.no,.no,.no,.no,.no,.no,.no,.no,.no,.no,.no,.call [] (vb x6)] [(6,vb (cond q10 x6 false))] [cs p_c] [((x1.2 != 0)=true→(x1.2 != 0)=true),((x1.2 != 0)=true→(x1.2 != 0)=true),(q7=true→q7=true),(q7=true→q7=true),(q7=true→q7=true),(q1=true→q1=true),(q1=true→q1=true),(q1=true→q1=true),(q10=true→PCall Try.prog 24 [] (vb x6)),(q10=true→q10=true)] (And.intro (id) (And.intro (id) (And.intro (id) (And.intro (id) (And.intro (id) (And.intro (id) (And.intro (id) (And.intro (id) (And.intro ((fun hg=>ct24 (optG_of hx6 hg))) (id)))))))))) ?_
  obtain rfl:=oi h
  refine WB 1 [(6,vb (cond q10 x6 false))] ?_
  exact awp_ret gm
 ·refine awp_skip ?_
  show awp ..
  refine awp_seq (GB [.no,.no,.no,.no,.no,.no,.no,.no,.no,.no,.no,.no,.no,.no,.no,.no,.own] [q2,q3,(3,rf 0),q16,q5,q6,(77,vb (cond (cond (x1.2 != 0) true ((x1.1.length:Int) != (p_c.Edges.length:Int))) true (cond (x2.2.2 != 0) (x2.2.2 != 9) false)))] [cs p_c] [((!(x1.2 != 0))=true→(!(x1.2 != 0))=true),((!(x1.2 != 0))=true→(!(x1.2 != 0))=true),((!(x1.2 != 0))=true→(!(x1.2 != 0))=true),((!(x1.2 != 0))=true→(!(x1.2 != 0))=true),((!(x1.2 != 0))=true→(!(x1.2 != 0))=true),((x1.2 != 0)=false→(!(x1.2 != 0))=true),((!(cond (x1.2 != 0) true ((x1.1.length:Int) != (p_c.Edges.length:Int))))=true→(!(cond (x1.2 != 0) true ((x1.1.length:Int) != (p_c.Edges.length:Int))))=true),((!(cond (x1.2 != 0) true ((x1.1.length:Int) != (p_c.Edges.length:Int))))=true→(!(cond (x1.2 != 0) true ((x1.1.length:Int) != (p_c.Edges.length:Int))))=true),(((!(cond (x1.2 != 0) true ((x1.1.length:Int) != (p_c.Edges.length:Int))))&&(x2.2.2 != 0))=true→((!(cond (x1.2 != 0) true ((x1.1.length:Int) != (p_c.Edges.length:Int))))&&(x2.2.2 != 0))=true),((!(cond (x1.2 != 0) true ((x1.1.length:Int) != (p_c.Edges.length:Int))))=true→(!(cond (x1.2 != 0) true ((x1.1.length:Int) != (p_c.Edges.length:Int))))=true),((!(cond (x1.2 != 0) true ((x1.1.length:Int) != (p_c.Edges.length:Int))))=true→(x2.2.2 != 0)=true→((!(cond (x1.2 != 0) true ((x1.1.length:Int) != (p_c.Edges.length:Int))))&&(x2.2.2 != 0))=true),((cond (x1.2 != 0) true ((x1.1.length:Int) != (p_c.Edges.length:Int)))=false→(!(cond (x1.2 != 0) true ((x1.1.length:Int) != (p_c.Edges.length:Int))))=true)] (And.intro (id) (And.intro (id) (And.intro (id) (And.intro (id) (And.intro (id) (And.intro (not_of) (And.intro (id) (And.intro (id) (And.intro (id) (And.intro (id) (And.intro ((fun hg h1=>by first|exact hg|exact h1|(rw [hg,h1];rfl)|(simp only [hg,h1,Bool.not_true,Bool.not_false,Bool.and_self,Bool.true_and,Bool.and_true];done)|(simp only [Bool.and_eq_true] at hg;simp only [hg,h1,Bool.not_true,Bool.not_false,Bool.and_self,Bool.true_and,Bool.and_true];done)|simp_all)) (not_of)))))))))))) ?_)
  refine cd h (fun hb7 h=>?_) (fun hb7 h=>?_)
  ·refine GA [(6,vb false)] [cs p_c] ?_
   obtain rfl:=oi h
   refine WB 1 [(6,vb false)] ?_
   exact awp_ret gm
  ·refine awp_skip ?_
   show awp ..
   obtain ⟨x8,hx8,h⟩:=ob h
   refine GB [.no,.no,.call [(ca p_c),(L3 x1.1)] (.tup [vi x8.1,vi x8.2])] [q2,q3,(3,rf 0),q16,q5,q6,(12,vi x8.1),(13,vi x8.2)] [cs p_c] [PCall Try.prog 30 [(ca p_c),(L3 x1.1)] (.tup [vi x8.1,vi x8.2])] (ct30 hx8) ?_
   obtain ⟨x9,hx9,h⟩:=ob h
   refine HB [.no,.no,.call [(ca p_c),(L3 x1.1)] (.tup [vi x9.1,vi x9.2])] [q2,q3,(3,rf 0),q5,q6,(12,vi x8.1),(13,vi x8.2),(14,vi x9.1),(15,vi x9.2)] [PCall Try.prog 31 [(ca p_c),(L3 x1.1)] (.tup [vi x9.1,vi x9.2])] (ct31 hx9) ?_
   let q8:=(cond (x8.2 != 0) true (x9.2 != 0))
   refine awp_seq (HB [] [q2,q3,(3,rf 0),q5,q6,(12,vi x8.1),(100,vb (cond q8 true (x8.1 != x9.1)))] [((!(x8.2 != 0))=true→(!(x8.2 != 0))=true),((x8.2 != 0)=false→(!(x8.2 != 0))=true),((!q8)=true→(!q8)=true),((!q8)=true→(!q8)=true),(q8=false→(!q8)=true)] (And.intro (id) (And.intro (not_of) (And.intro (id) (And.intro (id) (not_of))))) ?_)
   refine cd h (fun hb10 h=>?_) (fun hb10 h=>?_)
   ·refine GA [(6,vb false)] [cs p_c] ?_
    obtain rfl:=oi h
    refine WB 1 [(6,vb false)] ?_
    exact awp_ret gm
   ·refine awp_skip ?_
    show awp ..
    refine awp_seq ?_
    obtain ⟨x11,hx11,h⟩:=ob h
    refine GB [.no,.no,.no,.no,.no,.no,.no,.no,.no,.no,.no,.no,.no,.call [(ca p_c)] (vi x11),.no,.own] [q2,q3,(3,rf 0),q5,q6,(117,vb (cond (cond (x2.2.2==0) (x8.1 != x2.2.1) false) true (cond (x2.2.2==9) (decide (x8.1≤x11)) false)))] [cs p_c] [((x2.2.2==0)=true→(x2.2.2==0)=true),((x2.2.2==0)=true→(x2.2.2==0)=true),((x2.2.2==0)=true→(x2.2.2==0)=true),((!(cond (x2.2.2==0) (x8.1 != x2.2.1) false))=true→(!(cond (x2.2.2==0) (x8.1 != x2.2.1) false))=true),((!(cond (x2.2.2==0) (x8.1 != x2.2.1) false))=true→(!(cond (x2.2.2==0) (x8.1 != x2.2.1) false))=true),(((!(cond (x2.2.2==0) (x8.1 != x2.2.1) false))&&(x2.2.2==9))=true→((!(cond (x2.2.2==0) (x8.1 != x2.2.1) false))&&(x2.2.2==9))=true),(((!(cond (x2.2.2==0) (x8.1 != x2.2.1) false))&&(x2.2.2==9))=true→PCall Try.prog 42 [(ca p_c)] (vi x11)),(((!(cond (x2.2.2==0) (x8.1 != x2.2.1) false))&&(x2.2.2==9))=true→((!(cond (x2.2.2==0) (x8.1 != x2.2.1) false))&&(x2.2.2==9))=true),(((!(cond (x2.2.2==0) (x8.1 != x2.2.1) false))&&(x2.2.2==9))=true→((!(cond (x2.2.2==0) (x8.1 != x2.2.1) false))&&(x2.2.2==9))=true),((!(cond (x2.2.2==0) (x8.1 != x2.2.1) false))=true→(!(cond (x2.2.2==0) (x8.1 != x2.2.1) false))=true),((!(cond (x2.2.2==0) (x8.1 != x2.2.1) false))=true→(x2.2.2==9)=true→((!(cond (x2.2.2==0) (x8.1 != x2.2.1) false))&&(x2.2.2==9))=true),((cond (x2.2.2==0) (x8.1 != x2.2.1) false)=false→(!(cond (x2.2.2==0) (x8.1 != x2.2.1) false))=true)] (And.intro (id) (And.intro (id) (And.intro (id) (And.intro (id) (And.intro (id) (And.intro (id) (And.intro ((fun hg=>ct42 (optG_of hx11 hg))) (And.intro (id) (And.intro (id) (And.intro (id) (And.intro ((fun hg h1=>by first|exact hg|exact h1|(rw [hg,h1];rfl)|(simp only [hg,h1,Bool.not_true,Bool.not_false,Bool.and_self,Bool.true_and,Bool.and_true];done)|(simp only [Bool.and_eq_true] at hg;simp only [hg,h1,Bool.not_true,Bool.not_false,Bool.and_self,Bool.true_and,Bool.and_true];done)|simp_all)) (not_of)))))))))))) ?_
    refine cd h (fun hb12 h=>?_) (fun hb12 h=>?_)
    ·refine GA [(6,vb false)] [cs p_c] ?_
     obtain rfl:=oi h
     refine WB 1 [(6,vb false)] ?_
     exact awp_ret gm
    ·refine awp_skip ?_
     show awp ..
     refine GA [q2,q3,(3,rf 0),q5,q6,(16,.d dnil)] [cs p_c] ?_
     refine awp_seq (HA [q2,q3,(3,rf 0),q5,q6,(16,.d dnil),(17,vi 0)] ?_)
     refine awp_nil 16 1 (by kernel_rfl) ?_
     let q12:List O:=[cs p_c,.data (([]:List Int).flatMap cel3)]
     let q14:Nat×V:=(16,.sl 1 1 0 ([]:List Int).length)
     refine awp_eq (T':=[q14,q2,q3,(3,rf 0),q5,q6,(17,vi 0)]) (H':=[cs p_c,.data (([]:List Int).flatMap cel3)]) (by kernel_rfl) (by kernel_rfl) ?_
     refine WA 2 [q2,q3,(3,rf 0),q5,q6,q14,(17,vi 0)] q12 ?_
     refine cuo h (fun (ro14:Bool)=>[(6,vb ro14)]) (fun (ro14:Bool)=>[]) (fun (so14:(List Int))=>[q3,(3,rf 0),q5,q6,(16,.sl 1 1 0 so14.length)]) (fun (so14:(List Int))=>[cs p_c,.data (so14.flatMap cel3)]) (fun o14 h=>?_) (fun ro14 h=>?_) (fun so14 h=>?_)
     ·refine awp_selQ (WA 2 [q2,q3,(3,rf 0),q5,q6,q14,(17,vi 0)] q12 ?_)
      refine awp_block (awp_loop (n:=fuel) ?_)
      refine awpN_ind (fun n (c15:Int×(List Int))=>F8L1 p_c proof n c15) o14 (fun (c15:Int×(List Int))=>[q2,q3,(3,rf 0),q5,q6,(16,.sl 1 1 0 c15.2.length),(17,vi c15.1)]) (fun (c15:Int×(List Int))=>[cs p_c,.data (c15.2.flatMap cel3)]) (fun _=>rfl) ?_ fuel (0,([]:List Int)) h
      clear h
      intro n16 c15 h hrn16
      change F8L1 p_c proof (n16+1) c15=some o14 at h
      rw [F8L1] at h
      let q13:Nat×V:=(16,.sl 1 1 0 c15.2.length)
      let q15:List O:=[cs p_c,.data (c15.2.flatMap cel3)]
      refine awp_seq (GA [q2,q3,(3,rf 0),q5,q6,q13,(17,vi c15.1),(122,vb (decide (c15.1<(p_c.Edges.length:Int))))] q15 ?_)
      refine cd h (fun hb17 h=>?_) (fun hb17 h=>?_)
      ·refine awp_skip ?_
       show awp ..
       refine awp_seq (awp_block ?_)
       refine GA [q2,q3,(3,rf 0),q5,q6,q13,(17,vi c15.1),(18,vi 0)] q15 ?_
       refine awp_seq (HA [q2,q3,(3,rf 0),q5,q6,q13,(17,vi c15.1),(18,vi 0),(127,vb (decide ((proof.length:Int)>0)))] ?_)
       refine cd h (fun hb18 h=>?_) (fun hb18 h=>?_)
       ·obtain ⟨x19,hx19,h⟩:=ob h
        obtain ⟨x20,hx20,h⟩:=ob h
        let q17:=(IntKind.i64.wrap x20)
        refine XB [.no,.no,.no,.no,.no,.cells (cel54 x20)] [q2,q3,(3,rf 0),q5,q6,q13,(17,vi c15.1),(18,vi q17)] q15 [((proof.length:Int)≠0),IX54 proof (c15.1.tmod (proof.length:Int)) x20] (And.intro ((need_of hx19:(proof.length:Int)≠0)) (idxOk cel54_len hx20)) ?_
        show awp ..
        obtain ⟨x21,hx21,h⟩:=ob h
        let q4:=(c15.2++([q17]:List Int))
        refine XB [.no,.no,.no,.list q4.length (q4.flatMap cel3)] [q2,q3,(3,rf 0),q5,q6,(16,.sl 1 1 0 q4.length),(17,vi c15.1)] [cs p_c,.data (q4.flatMap cel3)] [AppendOk ((c15.2.flatMap cel3).map .d) c15.2.length ([q17]:List Int).length q4.length 1 8 (([q17]:List Int).flatMap cel3) (q4.flatMap cel3)] (appendOk cel3_len (need_of hx21)) ?_
        show awp ..
        refine YA [q2,q3,(3,rf 0),q5,q6,(16,.sl 1 1 0 q4.length),(17,vi (w64 (c15.1+1)))] ?_
        exact gn 2 [1,2,3,10,11,16,17] (hrn16 _ h)
       ·refine awp_skip ?_
        show awp ..
        obtain ⟨x22,hx22,h⟩:=ob h
        let q11:=(c15.2++([0]:List Int))
        refine XB [.no,.no,.no,.list q11.length (q11.flatMap cel3)] [q2,q3,(3,rf 0),q5,q6,(16,.sl 1 1 0 q11.length),(17,vi c15.1)] [cs p_c,.data (q11.flatMap cel3)] [AppendOk ((c15.2.flatMap cel3).map .d) c15.2.length ([0]:List Int).length q11.length 1 8 (([0]:List Int).flatMap cel3) (q11.flatMap cel3)] (appendOk cel3_len (need_of hx22)) ?_
        show awp ..
        refine YA [q2,q3,(3,rf 0),q5,q6,(16,.sl 1 1 0 q11.length),(17,vi (w64 (c15.1+1)))] ?_
        exact gn 2 [1,2,3,10,11,16,17] (hrn16 _ h)
      ·refine awp_exit ?_
       obtain rfl:=oi h
       exact gs [0,1] [2,3,10,11,16] OutQ.norm
     ·obtain rfl:=oi h
      exact gm
     ·show awp ..
      obtain ⟨x23,hx23,h⟩:=ob h
      refine GB [.no,.no,.call [(ca p_c),(L3 so14)] (.tup [vi x23.1,vi x23.2])] [q3,(3,rf 0),q5,q6,(19,vi x23.1),(20,vi x23.2)] [cs p_c,.data (so14.flatMap cel3)] [argsOk [cs p_c,.data (so14.flatMap cel3)] [.d (ca p_c),.sl 1 1 0 so14.length] [(ca p_c),(L3 so14)],PCall Try.prog 30 [(ca p_c),(L3 so14)] (.tup [vi x23.1,vi x23.2])] (And.intro ((And.intro (rfl) (And.intro (lentOk cel3_len rfl) trivial))) (ct30 hx23)) ?_
      obtain ⟨x24,hx24,h⟩:=ob h
      refine HB [.no,.no,.call [(ca p_c),(L5 p_x)] (.d (L3 x24))] [(3,rf 0),q5,q6,(19,vi x23.1),(20,vi x23.2),(21,.d (L3 x24))] [PCall Try.prog 37 [(ca p_c),(L5 p_x)] (.d (L3 x24))] (ct37 hx24) ?_
      obtain ⟨x25,hx25,h⟩:=ob h
      obtain ⟨x26,hx26,h⟩:=ob h
      obtain ⟨x27,hx27,h⟩:=ob h
      let q9:St:=[(6,vb (cond (cond (cond (x23.2==0) (cond (!x25) true (decide (x23.1≤x26))) false) (cond (x2.2.2 != 0) true (decide (x23.1≤x2.2.1))) false) x27 false))]
      refine HB [.no,.no,.no,.no,.no,.call [(ca p_c),(L3 x24)] (vb x25),.no,.no,.no,.no,.no,.call [(ca p_c),(L3 x24)] (vi x26),.no,.own,.no,.no,.no,.no,.no,.no,.no,.no,.own,.no,.no,.call [] (vb x27)] q9 [((x23.2==0)=true→(x23.2==0)=true),((x23.2==0)=true→(x23.2==0)=true),((x23.2==0)=true→PCall Try.prog 38 [(ca p_c),(L3 x24)] (vb x25)),((x23.2==0)=true→(x23.2==0)=true),((x23.2==0)=true→(x23.2==0)=true),(((x23.2==0)&&(!(!x25)))=true→((x23.2==0)&&(!(!x25)))=true),(((x23.2==0)&&(!(!x25)))=true→((x23.2==0)&&(!(!x25)))=true),(((x23.2==0)&&(!(!x25)))=true→PCall Try.prog 39 [(ca p_c),(L3 x24)] (vi x26)),(((x23.2==0)&&(!(!x25)))=true→((x23.2==0)&&(!(!x25)))=true),(((x23.2==0)&&(!(!x25)))=true→((x23.2==0)&&(!(!x25)))=true),((x23.2==0)=true→(x23.2==0)=true),((x23.2==0)=true→(!x25)=false→((x23.2==0)&&(!(!x25)))=true),((x23.2==0)=true→(x23.2==0)=true),((cond (x23.2==0) (cond (!x25) true (decide (x23.1≤x26))) false)=true→(cond (x23.2==0) (cond (!x25) true (decide (x23.1≤x26))) false)=true),((cond (x23.2==0) (cond (!x25) true (decide (x23.1≤x26))) false)=true→(cond (x23.2==0) (cond (!x25) true (decide (x23.1≤x26))) false)=true),(((cond (x23.2==0) (cond (!x25) true (decide (x23.1≤x26))) false)&&(!(x2.2.2 != 0)))=true→((cond (x23.2==0) (cond (!x25) true (decide (x23.1≤x26))) false)&&(!(x2.2.2 != 0)))=true),(((cond (x23.2==0) (cond (!x25) true (decide (x23.1≤x26))) false)&&(!(x2.2.2 != 0)))=true→((cond (x23.2==0) (cond (!x25) true (decide (x23.1≤x26))) false)&&(!(x2.2.2 != 0)))=true),((cond (x23.2==0) (cond (!x25) true (decide (x23.1≤x26))) false)=true→(cond (x23.2==0) (cond (!x25) true (decide (x23.1≤x26))) false)=true),((cond (x23.2==0) (cond (!x25) true (decide (x23.1≤x26))) false)=true→(x2.2.2 != 0)=false→((cond (x23.2==0) (cond (!x25) true (decide (x23.1≤x26))) false)&&(!(x2.2.2 != 0)))=true),((cond (x23.2==0) (cond (!x25) true (decide (x23.1≤x26))) false)=true→(cond (x23.2==0) (cond (!x25) true (decide (x23.1≤x26))) false)=true),((cond (cond (x23.2==0) (cond (!x25) true (decide (x23.1≤x26))) false) (cond (x2.2.2 != 0) true (decide (x23.1≤x2.2.1))) false)=true→PCall Try.prog 24 [] (vb x27)),((cond (cond (x23.2==0) (cond (!x25) true (decide (x23.1≤x26))) false) (cond (x2.2.2 != 0) true (decide (x23.1≤x2.2.1))) false)=true→(cond (cond (x23.2==0) (cond (!x25) true (decide (x23.1≤x26))) false) (cond (x2.2.2 != 0) true (decide (x23.1≤x2.2.1))) false)=true)] (And.intro (id) (And.intro (id) (And.intro ((fun hg=>ct38 (optG_of hx25 hg))) (And.intro (id) (And.intro (id) (And.intro (id) (And.intro (id) (And.intro ((fun hg=>ct39 (optG_of hx26 hg))) (And.intro (id) (And.intro (id) (And.intro (id) (And.intro ((fun hg h1=>by first|exact hg|exact h1|(rw [hg,h1];rfl)|(simp only [hg,h1,Bool.not_true,Bool.not_false,Bool.and_self,Bool.true_and,Bool.and_true];done)|(simp only [Bool.and_eq_true] at hg;simp only [hg,h1,Bool.not_true,Bool.not_false,Bool.and_self,Bool.true_and,Bool.and_true];done)|simp_all)) (And.intro (id) (And.intro (id) (And.intro (id) (And.intro (id) (And.intro (id) (And.intro (id) (And.intro ((fun hg h1=>by first|exact hg|exact h1|(rw [hg,h1];rfl)|(simp only [hg,h1,Bool.not_true,Bool.not_false,Bool.and_self,Bool.true_and,Bool.and_true];done)|(simp only [Bool.and_eq_true] at hg;simp only [hg,h1,Bool.not_true,Bool.not_false,Bool.and_self,Bool.true_and,Bool.and_true];done)|simp_all)) (And.intro (id) (And.intro ((fun hg=>ct24 (optG_of hx27 hg))) (id)))))))))))))))))))))) ?_
      obtain rfl:=oi h
      refine WB 2 q9 ?_
      exact awp_ret gm
end Go.Proofs.Ytallnifoeahpiaa
