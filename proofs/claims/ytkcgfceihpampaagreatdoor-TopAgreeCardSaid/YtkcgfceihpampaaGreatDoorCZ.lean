/- That functions of the seat compute this. Printed by a program of mine. -/
import Derived.Test.YtkcgfceihpampaaGreatDoorS
import Derived.Test.YtkcgfceihpampaaGreatDoorCD
import Derived.Test.YtkcgfceihpampaaGreatDoorCE
import Derived.Test.YtkcgfceihpampaaGreatDoorCF
import Derived.Test.YtkcgfceihpampaaGreatDoorCG
import Derived.Test.YtkcgfceihpampaaGreatDoorCH
import Derived.Test.YtkcgfceihpampaaGreatDoorCI
import Derived.Test.YtkcgfceihpampaaGreatDoorCW
import Derived.Test.YtkcgfceihpampaaGreatDoorCX
import Derived.Test.YtkcgfceihpampaaGreatDoorDZ
namespace Go.Proofs.YtkcgfceihpampaaGreatDoor
open Go Go.Sx
set_option maxRecDepth 100000
set_option linter.unusedVariables false
theorem ct5 {fuel:Nat} {p_c p_x res} (h:F5 fuel p_c p_x=some res):PCall Tryz.prog 5 [(.agg [(di p_c.Tol),(L82 p_c.Sheets),(L174 p_c.Edges)]),(.agg [(L5 p_x.Shifts),(L5 p_x.Off),(L181 p_x.High)])] (vb res):=by
 refine PO 150 Tryz.func5 rfl ?_;unfold F5 at h;refine EN (R0 ?_);obtain ⟨x1,hx1,h⟩:=ob h;refine RT (.n 1 (.pc (ct31 hx1) .nil)) (awp_seq (R0 (cd h (fun hb2 h=>?_) (fun hb2 h=>?_))))
 ·obtain ⟨x3,hx3,h⟩:=ob h;obtain ⟨x4,hx4,h⟩:=ob h;refine RT (.pc (ct7 hx3) (.n 1 (.p (show (x3=true→PCall Tryz.prog 32 [] (vb x4)) from (fun hg=>ct32 (optG_of hx4 hg))) (.h (.call [] (vb x4)) (.i x3 (.n 1 .nil)))))) ?_;cases h;exact awp_ret gm
 ·refine SK ?_;obtain ⟨x5,hx5,h⟩:=ob h;refine RT (.h (.own) (.n 2 (.ap (appendOk cel82_len (need_of hx5)) .nil))) ?_;obtain ⟨x6,hx6,h⟩:=ob h
  let q6:=([]:List S_api_EdSheet)
  let q1:=((q6++p_c.Sheets).set (0:Int).toNat (⟨x6.Name,x6.Weight,0⟩:S_api_EdSheet))
  let q4:O:=.cells [.d (L5 p_x.Shifts),.d (L5 p_x.Off),.d (L181 p_x.High)]
  refine GB [.no,.no,.no,.no,.cells (q1.flatMap cel82)] [(2,rf 0),(3,rf 1)] [.cells [vi p_c.Tol,.sl 3 2 0 (q6++p_c.Sheets).length,.d (L174 p_c.Edges)],q4,.data (q1.flatMap cel82)] [(0≤0∧0<((q6++p_c.Sheets).length:Int)),StoreOk (((q6++p_c.Sheets).flatMap cel82).map .d) (0+(0:Int).toNat*3+2) (([(di 0)]:List D).map .d) ((q1.flatMap cel82).map .d)] (And.intro (idx_bounds hx6) (storeOk (j:=2) (us:=([(di 0)]:List D)) (y:=(⟨x6.Name,x6.Weight,0⟩:S_api_EdSheet)) cel82_len hx6 rfl rfl (Zp rfl))) ?_;refine awp_eq (T':=[(2,rf 0),(3,rf 1)]) (H':=[.cells [vi p_c.Tol,.sl 3 2 0 ((([]:List S_api_EdSheet)++p_c.Sheets).set (0:Int).toNat (⟨x6.Name,x6.Weight,0⟩:S_api_EdSheet)).length,.d (L174 p_c.Edges)],.cells [.d (L5 p_x.Shifts),.d (L5 p_x.Off),.d (L181 p_x.High)],.data (((([]:List S_api_EdSheet)++p_c.Sheets).set (0:Int).toNat (⟨x6.Name,x6.Weight,0⟩:S_api_EdSheet)).flatMap cel82)]) rfl (by first|(simp +zetaDelta only [ZR];done)|(simp +zetaDelta only [len_copy];done)|simp +zetaDelta only [ZR,len_copy]) (awp_freezeC 0 1 2 (q1.flatMap cel82) [vi p_c.Tol,.sl 3 2 0 q1.length,.d (L174 p_c.Edges)] (.sl 3 2 0 q1.length) (.d (L82 q1)) _ _ (ps:=[(q1.flatMap cel82).length=q1.length*3]) (by kernel_rfl) (by kernel_rfl) (by kernel_rfl) (by kernel_rfl) (flatMap_len cel82 3 cel82_len q1) rfl rfl ?_)
  let q7:O:=.cells [vi p_c.Tol,.d (L82 q1),.d (L174 p_c.Edges)]
  refine WA 3 [(2,rf 0),(3,rf 1)] [q7,q4,.data (q6.flatMap cel82)] (EN (R0 (R0 ?_)));obtain ⟨x7,hx7,h⟩:=ob h;refine RT (.n 2 (.pc (ct33 hx7) .nil)) ?_;obtain ⟨x8,hx8,h⟩:=ob h;refine RT (.n 2 (.pc (ct33 hx8) .nil)) ?_;obtain ⟨x9,hx9,h⟩:=ob h;refine RT (.n 1 (.pc (ct34 hx9) .nil)) (awp_seq ?_);obtain ⟨x10,hx10,h⟩:=ob h
  let g2 := !(x9.2.2 != 0)
  let q5:=(cond (x9.2.2 != 0) true ((x9.1.length:Int) != (q1.length:Int)))
  let g1 := !q5
  refine RT (.n 4 (.i g2 (.n 1 (.n 1 (.i g2 (.n 1 (.i g2 (.n 1 (.i g2 (.i g2 (.n 1 (.p (show ((x9.2.2 != 0)=false→(!(x9.2.2 != 0))=true) from not_of) (.n 1 (.n 2 (.i g1 (.p (show (g1=true→IX3 x9.1 0 x10) from (fun hg=>idxOk cel3_len (optG_of hx10 hg))) (.h (.cells (cel3 x10)) (.i g1 (.n 1 (.i g1 (.n 1 (.p (show (q5=false→(!q5)=true) from not_of) (.n 1 .nil))))))))))))))))))))))) (cd h (fun hb11 h=>?_) (fun hb11 h=>?_))
  ·refine R0 ?_;obtain rfl:=oi h;exact awp_ret gm
  ·refine SK ?_;obtain ⟨x12,hx12,h⟩:=ob h;refine RT (.n 3 (.pc (ct35 hx12) .nil)) (awp_seq (R0 (cd h (fun hb13 h=>?_) (fun hb13 h=>?_))))
   ·obtain ⟨x14,hx14,h⟩:=ob h;obtain ⟨x15,hx15,h⟩:=ob h;refine RT (.pc (ct7 hx14) (.n 1 (.p (show (x14=true→PCall Tryz.prog 32 [] (vb x15)) from (fun hg=>ct32 (optG_of hx15 hg))) (.h (.call [] (vb x15)) (.i x14 (.n 1 .nil)))))) ?_;cases h;exact awp_ret gm
   ·refine SK ?_;obtain ⟨x16,hx16,h⟩:=ob h;refine RT (.n 1 (.pc (ct16 hx16) .nil)) ?_;obtain ⟨x17,hx17,h⟩:=ob h;refine RT (.n 1 (.pc (ct12 hx17) .nil)) ?_;obtain ⟨x18,hx18,h⟩:=ob h;refine RT (.n 1 (.pc (ct10 hx18) .nil)) (awp_seq ?_)
    let g4 := !(x16.2.2 != 0)
    let q3:=(cond (x16.2.2 != 0) true (x17.2 != 0))
    let g3 := !q3
    let q8:=(cond q3 true (!x17.1))
    let g2 := !q8
    let g1 := !(cond q8 true (x18.2 != 0))
    refine RT (.n 4 (.i g4 (.n 1 (.p (show ((x16.2.2 != 0)=false→(!(x16.2.2 != 0))=true) from not_of) (.n 1 (.n 2 (.i g3 (.n 1 (.p (show (q3=false→(!q3)=true) from not_of) (.n 1 (.n 2 (.i g2 (.n 1 (.p (show (q8=false→(!q8)=true) from not_of) (.n 1 (.n 2 (.i g1 (.n 1 (.n 1 (.i g1 (.n 1 (.i g1 (.i g1 (.n 1 (.p (show ((cond q8 true (x18.2 != 0))=false→(!(cond q8 true (x18.2 != 0)))=true) from not_of) (.n 1 .nil)))))))))))))))))))))))))) (cd h (fun hb19 h=>?_) (fun hb19 h=>?_))
    ·refine R0 ?_;obtain rfl:=oi h;exact awp_ret gm
    ·refine SK (awp_seq (R0 ?_))
     let q9:O:=.cells [vi x12.1.Interval,.d (L9 x12.1.Points),.d (L121 x12.1.Notes)]
     let q10:O:=.cells [vi x7.1.Tol,.d (L82 x7.1.Sheets),.d (L174 x7.1.Edges)]
     let q11:O:=.cells [vi x8.1.Tol,.d (L82 x8.1.Sheets),.d (L174 x8.1.Edges)]
     let q2:List O:=[q7,q4,.data (q6.flatMap cel82),.cells [vi 0,.d (L82 q1),.d (L174 p_c.Edges)],q10,q11,q9]
     refine cuo h (fun ro20=>[(4,vb ro20)]) (fun ro20=>[]) (fun so20=>[]) (fun so20=>[q7,q4,.data (q6.flatMap cel82),.cells [vi 0,.d (L82 q1),.d (L174 p_c.Edges)],q10,q11,q9]) (fun o20 h=>?_) (fun ro20 h=>?_) (fun so20 h=>?_)
     ·refine awp_selQ (LP 7 [16,19,21] (F5L1 x12 x18) o20 (fun c21=>pr [(16,.d (L3 x12.2)),(19,.d (L66 x18.1)),(21,vi c21)] q2) fuel 0 h (fun _=>rfl) ?_);clear h;intro n22 c21 h hrn22;rw [F5L1] at h;refine awp_seq (R0 (cd h (fun hb23 h=>?_) (fun hb23 h=>?_)))
      ·refine SK (awp_seq (awp_block ?_));obtain ⟨x24,hx24,h⟩:=ob h;obtain ⟨x25,hx25,h⟩:=ob h;obtain ⟨x26,hx26,h⟩:=ob h;refine DT 8 (.n 2 (.ix (idxOk cel3_len hx24) (.n 3 (.ix (idxOk cel66_len hx25) (.n 1 (.pc (ct27 hx26) .nil)))))) (cd h (fun hb27 h=>?_) (fun hb27 h=>?_))
       ·refine R0 ?_;cases h;exact awp_ret (gs [] [4] OutQ.ret)
       ·refine awp_skip ?_;show awp ..;exact X0 (gn 7 [16,19,21] (hrn22 _ h))
      ·refine awp_exit ?_;cases h;exact gs [0,1,2,3,4,5,6] [] OutQ.norm
     ·obtain rfl:=oi h;exact gm
     ·show awp ..;obtain ⟨x28,hx28,h⟩:=ob h;obtain ⟨x29,hx29,h⟩:=ob h;refine EN (RT (.pc (ct7 hx28) (.n 1 (.p (show (x28=true→PCall Tryz.prog 32 [] (vb x29)) from (fun hg=>ct32 (optG_of hx29 hg))) (.h (.call [] (vb x29)) (.i x28 (.n 1 .nil)))))) ?_);cases h;exact awp_ret gm
end Go.Proofs.YtkcgfceihpampaaGreatDoor
