/- That functions of the seat compute this. Printed by a program of mine. -/
import Derived.Test.YtallnifoeahpiaaS
import Derived.Test.YtallnifoeahpiaaCEG
import Derived.Test.YtallnifoeahpiaaCRA
import Derived.Test.YtallnifoeahpiaaCRB
import Derived.Test.YtallnifoeahpiaaCW
import Derived.Test.YtallnifoeahpiaaDLE
namespace Go.Proofs.Ytallnifoeahpiaa
open Go Go.Sx
set_option maxRecDepth 100000
set_option linter.unusedVariables false
theorem ct36 {fuel:Nat}  {p_c:S_api_EdCase} {res:Bool} (h:F36 fuel p_c=some res):PCall Try.prog 36 [(ca p_c)] (vb res):=by
 refine PCall.of_awp tt_ok (N:=14) Try.func36 rfl (by kernel_rfl) rfl (Nat.le_of_ble_eq_true rfl) rfl ?_
 unfold F36 at h
 refine GA [(1,rf 0)] [cs p_c] ?_
 obtain ⟨x1,hx1,h⟩:=ob h
 refine HB [.no,.call [(ca p_c)] (.tup [vi x1.1,vi x1.2.1,vi x1.2.2])] [(5,vi x1.2.2)] [PCall Try.prog 17 [(ca p_c)] (.tup [vi x1.1,vi x1.2.1,vi x1.2.2])] (ct17 hx1) ?_
 refine HA [(2,vb (x1.2.2==0))] ?_
 obtain rfl:=oi h
 refine WB 1 [(2,vb (x1.2.2==0))] ?_
 exact awp_ret gm
theorem ct77  {l:(List Int)} {p_n:Int} {res:Int} (h:F77 l p_n=some res):PCall Try.prog 77 [(L5 l),(di p_n)] (vi res):=by
 refine PCall.of_awp tt_ok (N:=16) Try.func77 rfl (by kernel_rfl) rfl (Nat.le_of_ble_eq_true rfl) rfl ?_
 unfold F77 at h
 refine GA [(0,.d (L5 l)),(1,vi p_n)] [] ?_
 refine awp_seq (HA [(0,.d (L5 l)),(1,vi p_n),(7,vb ((l.length:Int)==0))] ?_)
 refine cd h (fun hb1 h=>?_) (fun hb1 h=>?_)
 ·refine GA [(4,vi 0)] [] ?_
  obtain rfl:=oi h
  refine WB 0 [(4,vi 0)] ?_
  exact awp_ret gm
 ·refine awp_skip ?_
  show awp ..
  obtain ⟨x2,hx2,h⟩:=ob h
  obtain ⟨x3,hx3,h⟩:=ob h
  refine GB [.no,.no,.no,.no,.no,.cells (cel5 x3)] [(4,vi (IntKind.i64.wrap x3))] [] [((l.length:Int)≠0),IX5 l (p_n.tmod (l.length:Int)) x3] (And.intro ((need_of hx2:(l.length:Int)≠0)) (idxOk cel5_len hx3)) ?_
  obtain rfl:=oi h
  refine WB 0 [(4,vi (IntKind.i64.wrap x3))] ?_
  exact awp_ret gm
theorem ct37 {fuel:Nat}  {p_c:S_api_EdCase} {p_x:(List Int)} {res:(List Int)} (h:F37 fuel p_c p_x=some res):PCall Try.prog 37 [(ca p_c),(L5 p_x)] (.d (L3 res)):=by
 refine PCall.of_awp tt_ok (N:=34) Try.func37 rfl (by kernel_rfl) rfl (Nat.le_of_ble_eq_true rfl) rfl ?_
 unfold F37 at h
 refine GA [(1,.d (L5 p_x)),(2,rf 0)] [cs p_c] ?_
 refine HA [(1,.d (L5 p_x)),(2,rf 0),(5,.d dnil)] ?_
 refine awp_seq (HA [(1,.d (L5 p_x)),(2,rf 0),(5,.d dnil),(6,vi 0)] ?_)
 refine awp_nil 5 1 (by kernel_rfl) ?_
 refine awp_eq (T':=[(5,.sl 1 1 0 ([]:List Int).length),(1,.d (L5 p_x)),(2,rf 0),(6,vi 0)]) (H':=[cs p_c,.data (([]:List Int).flatMap cel3)]) (by kernel_rfl) (by kernel_rfl) ?_
 refine WA 2 [(1,.d (L5 p_x)),(2,rf 0),(5,.sl 1 1 0 ([]:List Int).length),(6,vi 0)] [cs p_c,.data (([]:List Int).flatMap cel3)] ?_
 refine cuo h (fun (ro2:(List Int))=>[(4,.d (L3 ro2))]) (fun (ro2:(List Int))=>[]) (fun (so2:(List Int))=>[(5,.sl 1 1 0 so2.length)]) (fun (so2:(List Int))=>[cs p_c,.data (so2.flatMap cel3)]) (fun o2 h=>?_) (fun ro2 h=>?_) (fun so2 h=>?_)
 ·refine awp_selQ (WA 2 [(1,.d (L5 p_x)),(2,rf 0),(5,.sl 1 1 0 ([]:List Int).length),(6,vi 0)] [cs p_c,.data (([]:List Int).flatMap cel3)] ?_)
  refine awp_block (awp_loop (n:=fuel) ?_)
  refine awpN_ind (fun n (c3:Int×(List Int))=>F37L1 p_c p_x n c3) o2 (fun (c3:Int×(List Int))=>[(1,.d (L5 p_x)),(2,rf 0),(5,.sl 1 1 0 c3.2.length),(6,vi c3.1)]) (fun (c3:Int×(List Int))=>[cs p_c,.data (c3.2.flatMap cel3)]) (fun _=>rfl) ?_ fuel (0,([]:List Int)) h
  clear h
  intro n4 c3 h hrn4
  change F37L1 p_c p_x (n4+1) c3=some o2 at h
  rw [F37L1] at h
  refine awp_seq (GA [(1,.d (L5 p_x)),(2,rf 0),(5,.sl 1 1 0 c3.2.length),(6,vi c3.1),(12,vb (decide (c3.1<(p_c.Sheets.length:Int))))] [cs p_c,.data (c3.2.flatMap cel3)] ?_)
  refine cd h (fun hb5 h=>?_) (fun hb5 h=>?_)
  ·refine awp_skip ?_
   show awp ..
   refine awp_seq (awp_block ?_)
   obtain ⟨x6,hx6,h⟩:=ob h
   refine GB [.no,.no,.no,.cells (cel66 x6)] [(1,.d (L5 p_x)),(2,rf 0),(5,.sl 1 1 0 c3.2.length),(6,vi c3.1),(7,vi x6.Most)] [cs p_c,.data (c3.2.flatMap cel3)] [IX66 p_c.Sheets c3.1 x6] (idxOk cel66_len hx6) ?_
   obtain ⟨x7,hx7,h⟩:=ob h
   obtain ⟨x8,hx8,h⟩:=ob h
   obtain ⟨x9,hx9,h⟩:=ob h
   refine XB [.no,.no,.no,.call [(L5 p_x),(di c3.1)] (vi x7),.no,.no,.no,.no,.no,.no,.no,.list (c3.2++([(w64 ((x7.tmod (w64 ((w64 (2*x6.Most))+1)))-x6.Most))]:List Int)).length ((c3.2++([(w64 ((x7.tmod (w64 ((w64 (2*x6.Most))+1)))-x6.Most))]:List Int)).flatMap cel3)] [(1,.d (L5 p_x)),(2,rf 0),(5,.sl 1 1 0 (c3.2++([(w64 ((x7.tmod (w64 ((w64 (2*x6.Most))+1)))-x6.Most))]:List Int)).length),(6,vi c3.1)] [cs p_c,.data ((c3.2++([(w64 ((x7.tmod (w64 ((w64 (2*x6.Most))+1)))-x6.Most))]:List Int)).flatMap cel3)] [PCall Try.prog 77 [(L5 p_x),(di c3.1)] (vi x7),((w64 ((w64 (2*x6.Most))+1))≠0),AppendOk ((c3.2.flatMap cel3).map .d) c3.2.length ([(w64 ((x7.tmod (w64 ((w64 (2*x6.Most))+1)))-x6.Most))]:List Int).length (c3.2++([(w64 ((x7.tmod (w64 ((w64 (2*x6.Most))+1)))-x6.Most))]:List Int)).length 1 8 (([(w64 ((x7.tmod (w64 ((w64 (2*x6.Most))+1)))-x6.Most))]:List Int).flatMap cel3) ((c3.2++([(w64 ((x7.tmod (w64 ((w64 (2*x6.Most))+1)))-x6.Most))]:List Int)).flatMap cel3)] (And.intro (ct77 hx7) (And.intro ((need_of hx8:(w64 ((w64 (2*x6.Most))+1))≠0)) (appendOk cel3_len (need_of hx9)))) ?_
   show awp ..
   refine YA [(1,.d (L5 p_x)),(2,rf 0),(5,.sl 1 1 0 (c3.2++([(w64 ((x7.tmod (w64 ((w64 (2*x6.Most))+1)))-x6.Most))]:List Int)).length),(6,vi (w64 (c3.1+1)))] ?_
   exact gn 2 [1,2,5,6] (hrn4 _ h)
  ·refine awp_exit ?_
   obtain rfl:=oi h
   exact gs [0,1] [5] OutQ.norm
 ·obtain rfl:=oi h
  exact gm
 ·show awp ..
  refine GA [(4,.sl 1 1 0 so2.length)] [cs p_c,.data (so2.flatMap cel3)] ?_
  obtain rfl:=oi h
  refine WB 2 [(4,.sl 1 1 0 so2.length)] ?_
  refine awp_freeze 4 1 (so2.flatMap cel3) (.sl 1 1 0 so2.length) (.d (L3 so2)) _ _ (ps:=[(so2.flatMap cel3).length=so2.length*1]) (by kernel_rfl) (by kernel_rfl) (by kernel_rfl) (flatMap_len cel3 1 cel3_len so2) rfl rfl ?_
  refine WA 2 [(4,.d (L3 so2))] [cs p_c,.data (([]:List Int).flatMap cel3)] ?_
  exact awp_ret gm
theorem ct38 {fuel:Nat}  {p_c:S_api_EdCase} {l:(List Int)} {res:Bool} (h:F38 fuel p_c l=some res):PCall Try.prog 38 [(ca p_c),(L3 l)] (vb res):=by
 refine PCall.of_awp tt_ok (N:=15) Try.func38 rfl (by kernel_rfl) rfl (Nat.le_of_ble_eq_true rfl) rfl ?_
 unfold F38 at h
 refine GA [(1,.d (L3 l)),(2,rf 0)] [cs p_c] ?_
 obtain ⟨x1,hx1,h⟩:=ob h
 obtain ⟨x2,hx2,h⟩:=ob h
 refine HB [.no,.no,.call [(ca p_c),(L3 l)] (vi x1),.no,.no,.no,.no,.call [(ca p_c),(L3 l)] (vi x2)] [(4,vb (cond (x1==0) (decide (x2<0)) false))] [PCall Try.prog 61 [(ca p_c),(L3 l)] (vi x1),((x1==0)=true→(x1==0)=true),((x1==0)=true→(x1==0)=true),((x1==0)=true→PCall Try.prog 62 [(ca p_c),(L3 l)] (vi x2)),((x1==0)=true→(x1==0)=true),((x1==0)=true→(x1==0)=true)] (And.intro (ct61 hx1) (And.intro (id) (And.intro (id) (And.intro ((fun hg=>ct62 (optG_of hx2 hg))) (And.intro (id) (id)))))) ?_
 obtain rfl:=oi h
 refine WB 1 [(4,vb (cond (x1==0) (decide (x2<0)) false))] ?_
 exact awp_ret gm
theorem ct7 {fuel:Nat}  {p_c:S_api_EdCase} {p_x:(List Int)} {res:Bool} (h:F7 fuel p_c p_x=some res):PCall Try.prog 7 [(ca p_c),(L5 p_x)] (vb res):=by
 refine PCall.of_awp tt_ok (N:=83) Try.func7 rfl (by kernel_rfl) rfl (Nat.le_of_ble_eq_true rfl) rfl ?_
 unfold F7 at h
 refine GA [(1,.d (L5 p_x)),(2,rf 0)] [cs p_c] ?_
 obtain ⟨x1,hx1,h⟩:=ob h
 refine HB [.no,.call [(ca p_c)] (.tup [.d (L3 x1.1),vi x1.2.1,vi x1.2.2])] [(1,.d (L5 p_x)),(2,rf 0),(5,.d (L3 x1.1)),(6,vi x1.2.1),(7,vi x1.2.2)] [PCall Try.prog 27 [(ca p_c)] (.tup [.d (L3 x1.1),vi x1.2.1,vi x1.2.2])] (ct27 hx1) ?_
 refine awp_seq ?_
 obtain ⟨x2,hx2,h⟩:=ob h
 refine HB [.no,.call [(ca p_c)] (vb x2)] [(1,.d (L5 p_x)),(2,rf 0),(5,.d (L3 x1.1)),(6,vi x1.2.1),(7,vi x1.2.2),(18,vb (!x2))] [PCall Try.prog 36 [(ca p_c)] (vb x2)] (ct36 hx2) ?_
 refine cd h (fun hb3 h=>?_) (fun hb3 h=>?_)
 ·obtain ⟨x4,hx4,h⟩:=ob h
  refine GB [.no,.no,.no,.no,.no,.no,.no,.no,.no,.no,.no,.no,.call [] (vb x4)] [(4,vb (cond (cond (cond (x1.2.2 != 0) ((x1.1.length:Int)==0) false) (x1.2.1==0) false) x4 false))] [cs p_c] [((x1.2.2 != 0)=true→(x1.2.2 != 0)=true),((x1.2.2 != 0)=true→(x1.2.2 != 0)=true),((x1.2.2 != 0)=true→(x1.2.2 != 0)=true),((cond (x1.2.2 != 0) ((x1.1.length:Int)==0) false)=true→(cond (x1.2.2 != 0) ((x1.1.length:Int)==0) false)=true),((cond (x1.2.2 != 0) ((x1.1.length:Int)==0) false)=true→(cond (x1.2.2 != 0) ((x1.1.length:Int)==0) false)=true),((cond (cond (x1.2.2 != 0) ((x1.1.length:Int)==0) false) (x1.2.1==0) false)=true→PCall Try.prog 24 [] (vb x4)),((cond (cond (x1.2.2 != 0) ((x1.1.length:Int)==0) false) (x1.2.1==0) false)=true→(cond (cond (x1.2.2 != 0) ((x1.1.length:Int)==0) false) (x1.2.1==0) false)=true)] (And.intro (id) (And.intro (id) (And.intro (id) (And.intro (id) (And.intro (id) (And.intro ((fun hg=>ct24 (optG_of hx4 hg))) (id))))))) ?_
  obtain rfl:=oi h
  refine WB 1 [(4,vb (cond (cond (cond (x1.2.2 != 0) ((x1.1.length:Int)==0) false) (x1.2.1==0) false) x4 false))] ?_
  exact awp_ret gm
 ·refine awp_skip ?_
  show awp ..
  obtain ⟨x5,hx5,h⟩:=ob h
  refine GB [.no,.no,.call [(ca p_c),(L5 p_x)] (.d (L3 x5))] [(2,rf 0),(5,.d (L3 x1.1)),(6,vi x1.2.1),(7,vi x1.2.2),(8,.d (L3 x5))] [cs p_c] [PCall Try.prog 37 [(ca p_c),(L5 p_x)] (.d (L3 x5))] (ct37 hx5) ?_
  obtain ⟨x6,hx6,h⟩:=ob h
  refine HB [.no,.no,.call [(ca p_c),(L3 x5)] (vb x6)] [(2,rf 0),(5,.d (L3 x1.1)),(6,vi x1.2.1),(7,vi x1.2.2),(8,.d (L3 x5)),(9,vb x6)] [PCall Try.prog 38 [(ca p_c),(L3 x5)] (vb x6)] (ct38 hx6) ?_
  refine awp_seq (HA [(2,rf 0),(5,.d (L3 x1.1)),(6,vi x1.2.1),(7,vi x1.2.2),(8,.d (L3 x5)),(9,vb x6),(40,vb (x1.2.2 != 0))] ?_)
  refine cd h (fun hb7 h=>?_) (fun hb7 h=>?_)
  ·obtain ⟨x8,hx8,h⟩:=ob h
   refine GB [.no,.no,.no,.no,.no,.no,.no,.no,.no,.no,.no,.no,.no,.no,.no,.no,.call [] (vb x8)] [(4,vb (cond (cond (cond (cond (x1.2.2==9) ((x1.1.length:Int)==0) false) (x1.2.1==0) false) (!x6) false) x8 false))] [cs p_c] [((x1.2.2==9)=true→(x1.2.2==9)=true),((x1.2.2==9)=true→(x1.2.2==9)=true),((x1.2.2==9)=true→(x1.2.2==9)=true),((cond (x1.2.2==9) ((x1.1.length:Int)==0) false)=true→(cond (x1.2.2==9) ((x1.1.length:Int)==0) false)=true),((cond (x1.2.2==9) ((x1.1.length:Int)==0) false)=true→(cond (x1.2.2==9) ((x1.1.length:Int)==0) false)=true),((cond (cond (x1.2.2==9) ((x1.1.length:Int)==0) false) (x1.2.1==0) false)=true→(cond (cond (x1.2.2==9) ((x1.1.length:Int)==0) false) (x1.2.1==0) false)=true),((cond (cond (x1.2.2==9) ((x1.1.length:Int)==0) false) (x1.2.1==0) false)=true→(cond (cond (x1.2.2==9) ((x1.1.length:Int)==0) false) (x1.2.1==0) false)=true),((cond (cond (cond (x1.2.2==9) ((x1.1.length:Int)==0) false) (x1.2.1==0) false) (!x6) false)=true→PCall Try.prog 24 [] (vb x8)),((cond (cond (cond (x1.2.2==9) ((x1.1.length:Int)==0) false) (x1.2.1==0) false) (!x6) false)=true→(cond (cond (cond (x1.2.2==9) ((x1.1.length:Int)==0) false) (x1.2.1==0) false) (!x6) false)=true)] (And.intro (id) (And.intro (id) (And.intro (id) (And.intro (id) (And.intro (id) (And.intro (id) (And.intro (id) (And.intro ((fun hg=>ct24 (optG_of hx8 hg))) (id))))))))) ?_
   obtain rfl:=oi h
   refine WB 1 [(4,vb (cond (cond (cond (cond (x1.2.2==9) ((x1.1.length:Int)==0) false) (x1.2.1==0) false) (!x6) false) x8 false))] ?_
   exact awp_ret gm
  ·refine awp_skip ?_
   show awp ..
   obtain ⟨x9,hx9,h⟩:=ob h
   obtain ⟨x10,hx10,h⟩:=ob h
   obtain ⟨x11,hx11,h⟩:=ob h
   obtain ⟨x12,hx12,h⟩:=ob h
   refine GB [.no,.no,.call [(ca p_c),(L3 x1.1)] (vb x9),.no,.no,.no,.call [(ca p_c),(L3 x1.1)] (vi x10),.no,.no,.no,.no,.no,.no,.no,.no,.no,.call [(ca p_c),(L3 x5)] (vi x11),.no,.no,.own,.no,.no,.call [] (vb x12)] [(4,vb (cond (cond (cond x9 (x10==x1.2.1) false) (cond (!x6) true (decide (x11≥x1.2.1))) false) x12 false))] [cs p_c] [PCall Try.prog 38 [(ca p_c),(L3 x1.1)] (vb x9),(x9=true→x9=true),(x9=true→x9=true),(x9=true→PCall Try.prog 39 [(ca p_c),(L3 x1.1)] (vi x10)),(x9=true→x9=true),(x9=true→x9=true),(x9=true→x9=true),((cond x9 (x10==x1.2.1) false)=true→(cond x9 (x10==x1.2.1) false)=true),((cond x9 (x10==x1.2.1) false)=true→(cond x9 (x10==x1.2.1) false)=true),(((cond x9 (x10==x1.2.1) false)&&(!(!x6)))=true→((cond x9 (x10==x1.2.1) false)&&(!(!x6)))=true),(((cond x9 (x10==x1.2.1) false)&&(!(!x6)))=true→((cond x9 (x10==x1.2.1) false)&&(!(!x6)))=true),(((cond x9 (x10==x1.2.1) false)&&(!(!x6)))=true→PCall Try.prog 39 [(ca p_c),(L3 x5)] (vi x11)),(((cond x9 (x10==x1.2.1) false)&&(!(!x6)))=true→((cond x9 (x10==x1.2.1) false)&&(!(!x6)))=true),(((cond x9 (x10==x1.2.1) false)&&(!(!x6)))=true→((cond x9 (x10==x1.2.1) false)&&(!(!x6)))=true),((cond x9 (x10==x1.2.1) false)=true→(cond x9 (x10==x1.2.1) false)=true),((cond x9 (x10==x1.2.1) false)=true→(!x6)=false→((cond x9 (x10==x1.2.1) false)&&(!(!x6)))=true),((cond x9 (x10==x1.2.1) false)=true→(cond x9 (x10==x1.2.1) false)=true),((cond (cond x9 (x10==x1.2.1) false) (cond (!x6) true (decide (x11≥x1.2.1))) false)=true→PCall Try.prog 24 [] (vb x12)),((cond (cond x9 (x10==x1.2.1) false) (cond (!x6) true (decide (x11≥x1.2.1))) false)=true→(cond (cond x9 (x10==x1.2.1) false) (cond (!x6) true (decide (x11≥x1.2.1))) false)=true)] (And.intro (ct38 hx9) (And.intro (id) (And.intro (id) (And.intro ((fun hg=>ct39 (optG_of hx10 hg))) (And.intro (id) (And.intro (id) (And.intro (id) (And.intro (id) (And.intro (id) (And.intro (id) (And.intro (id) (And.intro ((fun hg=>ct39 (optG_of hx11 hg))) (And.intro (id) (And.intro (id) (And.intro (id) (And.intro ((fun hg h1=>by first|exact hg|exact h1|(rw [hg,h1];rfl)|(simp only [hg,h1,Bool.not_true,Bool.not_false,Bool.and_self,Bool.true_and,Bool.and_true];done)|(simp only [Bool.and_eq_true] at hg;simp only [hg,h1,Bool.not_true,Bool.not_false,Bool.and_self,Bool.true_and,Bool.and_true];done)|simp_all)) (And.intro (id) (And.intro ((fun hg=>ct24 (optG_of hx12 hg))) (id))))))))))))))))))) ?_
   obtain rfl:=oi h
   refine WB 1 [(4,vb (cond (cond (cond x9 (x10==x1.2.1) false) (cond (!x6) true (decide (x11≥x1.2.1))) false) x12 false))] ?_
   exact awp_ret gm
end Go.Proofs.Ytallnifoeahpiaa
