/- That functions of the seat compute this. Printed by a program of mine. -/
import Derived.Test.YtallnifoeahpiaaS
import Derived.Test.YtallnifoeahpiaaCEF
import Derived.Test.YtallnifoeahpiaaCEG
import Derived.Test.YtallnifoeahpiaaCLV
import Derived.Test.YtallnifoeahpiaaCRL
import Derived.Test.YtallnifoeahpiaaCW
import Derived.Test.YtallnifoeahpiaaDLG
namespace Go.Proofs.Ytallnifoeahpiaa
open Go Go.Sx
set_option maxRecDepth 100000
set_option linter.unusedVariables false
theorem ct44 {fuel:Nat}  {p_c:S_api_EdCase} {bits:Int} {res:(List Int)} (h:F44 fuel p_c bits=some res):PCall Try.prog 44 [(ca p_c),(.v (.int .u8 bits))] (.d (L3 res)):=by
 refine PCall.of_awp tt_ok (N:=24) Try.func44 rfl (by kernel_rfl) rfl (Nat.le_of_ble_eq_true rfl) rfl ?_
 unfold F44 at h
 refine GA [(1,.d (.v (.int .u8 bits))),(2,rf 0)] [cs p_c] ?_
 refine HA [(1,.d (.v (.int .u8 bits))),(2,rf 0),(5,.d dnil)] ?_
 refine awp_seq (HA [(1,.d (.v (.int .u8 bits))),(2,rf 0),(5,.d dnil),(6,vi 0)] ?_)
 refine awp_nil 5 1 (by kernel_rfl) ?_
 refine awp_eq (T':=[(5,.sl 1 1 0 ([]:List Int).length),(1,.d (.v (.int .u8 bits))),(2,rf 0),(6,vi 0)]) (H':=[cs p_c,.data (([]:List Int).flatMap cel3)]) (by kernel_rfl) (by kernel_rfl) ?_
 refine WA 2 [(1,.d (.v (.int .u8 bits))),(2,rf 0),(5,.sl 1 1 0 ([]:List Int).length),(6,vi 0)] [cs p_c,.data (([]:List Int).flatMap cel3)] ?_
 refine cuo h (fun (ro2:(List Int))=>[(4,.d (L3 ro2))]) (fun (ro2:(List Int))=>[]) (fun (so2:(List Int))=>[(5,.sl 1 1 0 so2.length)]) (fun (so2:(List Int))=>[cs p_c,.data (so2.flatMap cel3)]) (fun o2 h=>?_) (fun ro2 h=>?_) (fun so2 h=>?_)
 ·refine awp_selQ (WA 2 [(1,.d (.v (.int .u8 bits))),(2,rf 0),(5,.sl 1 1 0 ([]:List Int).length),(6,vi 0)] [cs p_c,.data (([]:List Int).flatMap cel3)] ?_)
  refine awp_block (awp_loop (n:=fuel) ?_)
  refine awpN_ind (fun n (c3:Int×(List Int))=>F44L1 p_c bits n c3) o2 (fun (c3:Int×(List Int))=>[(1,.d (.v (.int .u8 bits))),(2,rf 0),(5,.sl 1 1 0 c3.2.length),(6,vi c3.1)]) (fun (c3:Int×(List Int))=>[cs p_c,.data (c3.2.flatMap cel3)]) (fun _=>rfl) ?_ fuel (0,([]:List Int)) h
  clear h
  intro n4 c3 h hrn4
  change F44L1 p_c bits (n4+1) c3=some o2 at h
  rw [F44L1] at h
  refine awp_seq (GA [(1,.d (.v (.int .u8 bits))),(2,rf 0),(5,.sl 1 1 0 c3.2.length),(6,vi c3.1),(11,vb (decide (c3.1<(p_c.Edges.length:Int))))] [cs p_c,.data (c3.2.flatMap cel3)] ?_)
  refine cd h (fun hb5 h=>?_) (fun hb5 h=>?_)
  ·refine awp_skip ?_
   show awp ..
   refine awp_seq (awp_block ?_)
   obtain ⟨x6,hx6,h⟩:=ob h
   refine GB [] [(1,.d (.v (.int .u8 bits))),(2,rf 0),(5,.sl 1 1 0 c3.2.length),(6,vi c3.1),(18,vb (((bits / 2^min c3.1.toNat 8).tmod 2)==1))] [cs p_c,.data (c3.2.flatMap cel3)] [(0≤c3.1),((2:Int)≠0)] (And.intro ((need_of hx6:0≤c3.1)) ((by decide:(2:Int)≠0))) ?_
   refine cd h (fun hb7 h=>?_) (fun hb7 h=>?_)
   ·obtain ⟨x8,hx8,h⟩:=ob h
    refine XB [.no,.no,.no,.list (c3.2++([c3.1]:List Int)).length ((c3.2++([c3.1]:List Int)).flatMap cel3)] [(1,.d (.v (.int .u8 bits))),(2,rf 0),(5,.sl 1 1 0 (c3.2++([c3.1]:List Int)).length),(6,vi c3.1)] [cs p_c,.data ((c3.2++([c3.1]:List Int)).flatMap cel3)] [AppendOk ((c3.2.flatMap cel3).map .d) c3.2.length ([c3.1]:List Int).length (c3.2++([c3.1]:List Int)).length 1 8 (([c3.1]:List Int).flatMap cel3) ((c3.2++([c3.1]:List Int)).flatMap cel3)] (appendOk cel3_len (need_of hx8)) ?_
    show awp ..
    refine YA [(1,.d (.v (.int .u8 bits))),(2,rf 0),(5,.sl 1 1 0 (c3.2++([c3.1]:List Int)).length),(6,vi (w64 (c3.1+1)))] ?_
    exact gn 2 [1,2,5,6] (hrn4 _ h)
   ·refine awp_skip ?_
    show awp ..
    refine XA [(1,.d (.v (.int .u8 bits))),(2,rf 0),(5,.sl 1 1 0 c3.2.length),(6,vi (w64 (c3.1+1)))] [cs p_c,.data (c3.2.flatMap cel3)] ?_
    exact gn 2 [1,2,5,6] (hrn4 _ h)
  ·refine awp_exit ?_
   obtain rfl:=oi h
   exact gs [0,1] [5] OutQ.norm
 ·obtain rfl:=oi h
  exact gm
 ·show awp ..
  refine GA [(4,.sl 1 1 0 so2.length)] [cs p_c,.data (so2.flatMap cel3)] ?_
  obtain rfl:=oi h
  refine WB 2 [(4,.sl 1 1 0 so2.length)] ?_
  refine awp_freeze 4 1 (so2.flatMap cel3) (.sl 1 1 0 so2.length) (.d (L3 so2)) _ _ (ps:=[(so2.flatMap cel3).length=so2.length*1]) (by kernel_rfl) (by kernel_rfl) (by kernel_rfl) (flatMap_len cel3 1 cel3_len so2) rfl rfl ?_
  refine WA 2 [(4,.d (L3 so2))] [cs p_c,.data (([]:List Int).flatMap cel3)] ?_
  exact awp_ret gm
theorem ct9 {fuel:Nat}  {p_c:S_api_EdCase} {bits:Int} {p_x:(List Int)} {res:Bool} (h:F9 fuel p_c bits p_x=some res):PCall Try.prog 9 [(ca p_c),(.v (.int .u8 bits)),(L5 p_x)] (vb res):=by
 refine PCall.of_awp tt_ok (N:=127) Try.func9 rfl (by kernel_rfl) rfl (Nat.le_of_ble_eq_true rfl) rfl ?_
 unfold F9 at h
 refine GA [(1,.d (.v (.int .u8 bits))),(2,.d (L5 p_x)),(3,rf 0)] [cs p_c] ?_
 obtain ⟨x1,hx1,h⟩:=ob h
 refine HB [.no,.call [(ca p_c)] (.tup [.d (L3 x1.1),vi x1.2])] [(1,.d (.v (.int .u8 bits))),(2,.d (L5 p_x)),(3,rf 0),(7,.d (L3 x1.1)),(8,vi x1.2)] [PCall Try.prog 32 [(ca p_c)] (.tup [.d (L3 x1.1),vi x1.2])] (ct32 hx1) ?_
 refine awp_seq ?_
 obtain ⟨x2,hx2,h⟩:=ob h
 refine HB [.no,.call [(ca p_c)] (vb x2)] [(1,.d (.v (.int .u8 bits))),(2,.d (L5 p_x)),(3,rf 0),(7,.d (L3 x1.1)),(8,vi x1.2),(25,vb (!x2))] [PCall Try.prog 36 [(ca p_c)] (vb x2)] (ct36 hx2) ?_
 refine cd h (fun hb3 h=>?_) (fun hb3 h=>?_)
 ·obtain ⟨x4,hx4,h⟩:=ob h
  refine GB [.no,.no,.no,.no,.no,.no,.no,.no,.call [] (vb x4)] [(6,vb (cond (cond (x1.2 != 0) ((x1.1.length:Int)==0) false) x4 false))] [cs p_c] [((x1.2 != 0)=true→(x1.2 != 0)=true),((x1.2 != 0)=true→(x1.2 != 0)=true),((x1.2 != 0)=true→(x1.2 != 0)=true),((cond (x1.2 != 0) ((x1.1.length:Int)==0) false)=true→PCall Try.prog 24 [] (vb x4)),((cond (x1.2 != 0) ((x1.1.length:Int)==0) false)=true→(cond (x1.2 != 0) ((x1.1.length:Int)==0) false)=true)] (And.intro (id) (And.intro (id) (And.intro (id) (And.intro ((fun hg=>ct24 (optG_of hx4 hg))) (id))))) ?_
  obtain rfl:=oi h
  refine WB 1 [(6,vb (cond (cond (x1.2 != 0) ((x1.1.length:Int)==0) false) x4 false))] ?_
  exact awp_ret gm
 ·refine awp_skip ?_
  show awp ..
  refine awp_seq (GA [(1,.d (.v (.int .u8 bits))),(2,.d (L5 p_x)),(3,rf 0),(7,.d (L3 x1.1)),(8,vi x1.2),(9,vi 0)] [cs p_c] ?_)
  refine cuo h (fun (ro5:Bool)=>[(6,vb ro5)]) (fun (ro5:Bool)=>[]) (fun (so5:Unit)=>[(1,.d (.v (.int .u8 bits))),(2,.d (L5 p_x)),(3,rf 0),(7,.d (L3 x1.1)),(8,vi x1.2)]) (fun (so5:Unit)=>[cs p_c]) (fun o5 h=>?_) (fun ro5 h=>?_) (fun so5 h=>?_)
  ·refine awp_selQ (WA 1 [(1,.d (.v (.int .u8 bits))),(2,.d (L5 p_x)),(3,rf 0),(7,.d (L3 x1.1)),(8,vi x1.2),(9,vi 0)] [cs p_c] ?_)
   refine awp_block (awp_loop (n:=fuel) ?_)
   refine awpN_ind (fun n (c6:Int)=>F9L1 p_c x1 n c6) o5 (fun (c6:Int)=>[(1,.d (.v (.int .u8 bits))),(2,.d (L5 p_x)),(3,rf 0),(7,.d (L3 x1.1)),(8,vi x1.2),(9,vi c6)]) (fun (c6:Int)=>[cs p_c]) (fun _=>rfl) ?_ fuel 0 h
   clear h
   intro n7 c6 h hrn7
   change F9L1 p_c x1 (n7+1) c6=some o5 at h
   rw [F9L1] at h
   refine awp_seq (GA [(1,.d (.v (.int .u8 bits))),(2,.d (L5 p_x)),(3,rf 0),(7,.d (L3 x1.1)),(8,vi x1.2),(9,vi c6),(39,vb (decide (c6<(x1.1.length:Int))))] [cs p_c] ?_)
   refine cd h (fun hb8 h=>?_) (fun hb8 h=>?_)
   ·refine awp_skip ?_
    show awp ..
    refine awp_seq (awp_block ?_)
    obtain ⟨x9,hx9,h⟩:=ob h
    obtain ⟨x10,hx10,h⟩:=ob h
    obtain ⟨x11,hx11,h⟩:=ob h
    obtain ⟨x12,hx12,h⟩:=ob h
    refine sd [1,2,3,7,8,9,72] [.no,.no,.cells (cel3 x9),.no,.no,.no,.no,.no,.cells (cel3 x10),.no,.no,.no,.no,.no,.no,.no,.no,.no,.no,.no,.no,.cells (cel3 x11),.no,.no,.no,.no,.cells (cel3 x12),.no,.no,.own] 28 [1,2,3,7,8,9,57,60,64,69,70,71,72] [(1,.d (.v (.int .u8 bits))),(2,.d (L5 p_x)),(3,rf 0),(7,.d (L3 x1.1)),(8,vi x1.2),(9,vi c6),(72,vb (cond (cond (decide (x9<0)) true (decide (x10≥(p_c.Edges.length:Int)))) true (cond (decide (c6>0)) (decide (x11≤x12)) false)))] [cs p_c] [IX3 x1.1 c6 x9,((!(decide (x9<0)))=true→(!(decide (x9<0)))=true),((!(decide (x9<0)))=true→(!(decide (x9<0)))=true),((!(decide (x9<0)))=true→IX3 x1.1 c6 x10),((!(decide (x9<0)))=true→(!(decide (x9<0)))=true),((!(decide (x9<0)))=true→(!(decide (x9<0)))=true),((!(decide (x9<0)))=true→(!(decide (x9<0)))=true),((!(decide (x9<0)))=true→(!(decide (x9<0)))=true),((!(decide (x9<0)))=true→(!(decide (x9<0)))=true),((decide (x9<0))=false→(!(decide (x9<0)))=true),((!(cond (decide (x9<0)) true (decide (x10≥(p_c.Edges.length:Int)))))=true→(!(cond (decide (x9<0)) true (decide (x10≥(p_c.Edges.length:Int)))))=true),((!(cond (decide (x9<0)) true (decide (x10≥(p_c.Edges.length:Int)))))=true→(!(cond (decide (x9<0)) true (decide (x10≥(p_c.Edges.length:Int)))))=true),(((!(cond (decide (x9<0)) true (decide (x10≥(p_c.Edges.length:Int)))))&&(decide (c6>0)))=true→((!(cond (decide (x9<0)) true (decide (x10≥(p_c.Edges.length:Int)))))&&(decide (c6>0)))=true),(((!(cond (decide (x9<0)) true (decide (x10≥(p_c.Edges.length:Int)))))&&(decide (c6>0)))=true→((!(cond (decide (x9<0)) true (decide (x10≥(p_c.Edges.length:Int)))))&&(decide (c6>0)))=true),(((!(cond (decide (x9<0)) true (decide (x10≥(p_c.Edges.length:Int)))))&&(decide (c6>0)))=true→IX3 x1.1 c6 x11),(((!(cond (decide (x9<0)) true (decide (x10≥(p_c.Edges.length:Int)))))&&(decide (c6>0)))=true→((!(cond (decide (x9<0)) true (decide (x10≥(p_c.Edges.length:Int)))))&&(decide (c6>0)))=true),(((!(cond (decide (x9<0)) true (decide (x10≥(p_c.Edges.length:Int)))))&&(decide (c6>0)))=true→((!(cond (decide (x9<0)) true (decide (x10≥(p_c.Edges.length:Int)))))&&(decide (c6>0)))=true),(((!(cond (decide (x9<0)) true (decide (x10≥(p_c.Edges.length:Int)))))&&(decide (c6>0)))=true→((!(cond (decide (x9<0)) true (decide (x10≥(p_c.Edges.length:Int)))))&&(decide (c6>0)))=true),(((!(cond (decide (x9<0)) true (decide (x10≥(p_c.Edges.length:Int)))))&&(decide (c6>0)))=true→((!(cond (decide (x9<0)) true (decide (x10≥(p_c.Edges.length:Int)))))&&(decide (c6>0)))=true),(((!(cond (decide (x9<0)) true (decide (x10≥(p_c.Edges.length:Int)))))&&(decide (c6>0)))=true→IX3 x1.1 (w64 (c6-1)) x12),(((!(cond (decide (x9<0)) true (decide (x10≥(p_c.Edges.length:Int)))))&&(decide (c6>0)))=true→((!(cond (decide (x9<0)) true (decide (x10≥(p_c.Edges.length:Int)))))&&(decide (c6>0)))=true),(((!(cond (decide (x9<0)) true (decide (x10≥(p_c.Edges.length:Int)))))&&(decide (c6>0)))=true→((!(cond (decide (x9<0)) true (decide (x10≥(p_c.Edges.length:Int)))))&&(decide (c6>0)))=true),(((!(cond (decide (x9<0)) true (decide (x10≥(p_c.Edges.length:Int)))))&&(decide (c6>0)))=true→((!(cond (decide (x9<0)) true (decide (x10≥(p_c.Edges.length:Int)))))&&(decide (c6>0)))=true),((!(cond (decide (x9<0)) true (decide (x10≥(p_c.Edges.length:Int)))))=true→(!(cond (decide (x9<0)) true (decide (x10≥(p_c.Edges.length:Int)))))=true),((!(cond (decide (x9<0)) true (decide (x10≥(p_c.Edges.length:Int)))))=true→(decide (c6>0))=true→((!(cond (decide (x9<0)) true (decide (x10≥(p_c.Edges.length:Int)))))&&(decide (c6>0)))=true),((cond (decide (x9<0)) true (decide (x10≥(p_c.Edges.length:Int))))=false→(!(cond (decide (x9<0)) true (decide (x10≥(p_c.Edges.length:Int)))))=true)] (And.intro (idxOk cel3_len hx9) (And.intro (id) (And.intro (id) (And.intro ((fun hg=>idxOk cel3_len (optG_of hx10 hg))) (And.intro (id) (And.intro (id) (And.intro (id) (And.intro (id) (And.intro (id) (And.intro (not_of) (And.intro (id) (And.intro (id) (And.intro (id) (And.intro (id) (And.intro ((fun hg=>idxOk cel3_len (optG_of hx11 hg))) (And.intro (id) (And.intro (id) (And.intro (id) (And.intro (id) (And.intro ((fun hg=>idxOk cel3_len (optG_of hx12 hg))) (And.intro (id) (And.intro (id) (And.intro (id) (And.intro (id) (And.intro ((fun hg h1=>by first|exact hg|exact h1|(rw [hg,h1];rfl)|(simp only [hg,h1,Bool.not_true,Bool.not_false,Bool.and_self,Bool.true_and,Bool.and_true];done)|(simp only [Bool.and_eq_true] at hg;simp only [hg,h1,Bool.not_true,Bool.not_false,Bool.and_self,Bool.true_and,Bool.and_true];done)|simp_all)) (not_of)))))))))))))))))))))))))) ?_
    refine cd h (fun hb13 h=>?_) (fun hb13 h=>?_)
    ·refine GA [(6,vb false)] [cs p_c] ?_
     obtain rfl:=oi h
     refine WB 1 [(6,vb false)] ?_
     exact awp_ret (gs [] [6] OutQ.ret)
    ·refine awp_skip ?_
     show awp ..
     refine XA [(1,.d (.v (.int .u8 bits))),(2,.d (L5 p_x)),(3,rf 0),(7,.d (L3 x1.1)),(8,vi x1.2),(9,vi (w64 (c6+1)))] [cs p_c] ?_
     exact gn 1 [1,2,3,7,8,9] (hrn7 _ h)
   ·refine awp_exit ?_
    obtain rfl:=oi h
    exact gs [0] [1,2,3,7,8] OutQ.norm
  ·obtain rfl:=oi h
   exact gm
  ·show awp ..
   obtain ⟨x14,hx14,h⟩:=ob h
   obtain ⟨x15,hx15,h⟩:=ob h
   refine GB [.no,.no,.call [(ca p_c),(L3 x1.1)] (.d (ca x14)),.call [(ca x14)] (.tup [.d (L3 x15.1),vi x15.2.1,vi x15.2.2])] [(1,.d (.v (.int .u8 bits))),(2,.d (L5 p_x)),(3,rf 0),(7,.d (L3 x1.1)),(8,vi x1.2),(12,vi x15.2.2)] [cs p_c] [PCall Try.prog 43 [(ca p_c),(L3 x1.1)] (.d (ca x14)),PCall Try.prog 27 [(ca x14)] (.tup [.d (L3 x15.1),vi x15.2.1,vi x15.2.2])] (And.intro (ct43 hx14) (ct27 hx15)) ?_
   obtain ⟨x16,hx16,h⟩:=ob h
   refine HB [.no,.no,.call [(ca p_c),(.v (.int .u8 bits))] (.d (L3 x16))] [(2,.d (L5 p_x)),(3,rf 0),(7,.d (L3 x1.1)),(8,vi x1.2),(12,vi x15.2.2),(13,.d (L3 x16))] [PCall Try.prog 44 [(ca p_c),(.v (.int .u8 bits))] (.d (L3 x16))] (ct44 hx16) ?_
   obtain ⟨x17,hx17,h⟩:=ob h
   refine GB [.no,.no,.call [(ca p_c),(L3 x16)] (.d (ca x17))] [(2,.d (L5 p_x)),(7,.d (L3 x1.1)),(8,vi x1.2),(12,vi x15.2.2),(13,.d (L3 x16)),(14,rf 1)] [cs p_c,cs x17] [PCall Try.prog 43 [(ca p_c),(L3 x16)] (.d (ca x17))] (ct43 hx17) ?_
   obtain ⟨x18,hx18,h⟩:=ob h
   refine HB [.no,.call [(ca x17)] (.tup [.d (L3 x18.1),vi x18.2.1,vi x18.2.2])] [(2,.d (L5 p_x)),(7,.d (L3 x1.1)),(8,vi x1.2),(12,vi x15.2.2),(13,.d (L3 x16)),(14,rf 1),(17,vi x18.2.2)] [PCall Try.prog 27 [(ca x17)] (.tup [.d (L3 x18.1),vi x18.2.1,vi x18.2.2])] (ct27 hx18) ?_
   refine awp_seq (HB [.no,.no,.no,.no,.no,.no,.no,.no,.no,.no,.no,.no,.own] [(2,.d (L5 p_x)),(7,.d (L3 x1.1)),(13,.d (L3 x16)),(14,rf 1),(17,vi x18.2.2),(106,vb (cond (cond (x1.2 != 0) true (x15.2.2 != 0)) true (cond (x18.2.2 != 0) (x18.2.2 != 9) false)))] [((!(x1.2 != 0))=true→(!(x1.2 != 0))=true),((x1.2 != 0)=false→(!(x1.2 != 0))=true),((!(cond (x1.2 != 0) true (x15.2.2 != 0)))=true→(!(cond (x1.2 != 0) true (x15.2.2 != 0)))=true),((!(cond (x1.2 != 0) true (x15.2.2 != 0)))=true→(!(cond (x1.2 != 0) true (x15.2.2 != 0)))=true),(((!(cond (x1.2 != 0) true (x15.2.2 != 0)))&&(x18.2.2 != 0))=true→((!(cond (x1.2 != 0) true (x15.2.2 != 0)))&&(x18.2.2 != 0))=true),((!(cond (x1.2 != 0) true (x15.2.2 != 0)))=true→(!(cond (x1.2 != 0) true (x15.2.2 != 0)))=true),((!(cond (x1.2 != 0) true (x15.2.2 != 0)))=true→(x18.2.2 != 0)=true→((!(cond (x1.2 != 0) true (x15.2.2 != 0)))&&(x18.2.2 != 0))=true),((cond (x1.2 != 0) true (x15.2.2 != 0))=false→(!(cond (x1.2 != 0) true (x15.2.2 != 0)))=true)] (And.intro (id) (And.intro (not_of) (And.intro (id) (And.intro (id) (And.intro (id) (And.intro (id) (And.intro ((fun hg h1=>by first|exact hg|exact h1|(rw [hg,h1];rfl)|(simp only [hg,h1,Bool.not_true,Bool.not_false,Bool.and_self,Bool.true_and,Bool.and_true];done)|(simp only [Bool.and_eq_true] at hg;simp only [hg,h1,Bool.not_true,Bool.not_false,Bool.and_self,Bool.true_and,Bool.and_true];done)|simp_all)) (not_of)))))))) ?_)
   refine cd h (fun hb19 h=>?_) (fun hb19 h=>?_)
   ·refine GA [(6,vb false)] [cs p_c,cs x17] ?_
    obtain rfl:=oi h
    refine WB 2 [(6,vb false)] ?_
    exact awp_ret gm
   ·refine awp_skip ?_
    show awp ..
    obtain ⟨x20,hx20,h⟩:=ob h
    obtain ⟨x21,hx21,h⟩:=ob h
    obtain ⟨x22,hx22,h⟩:=ob h
    refine sd [6] [.no,.no,.no,.no,.no,.no,.no,.no,.no,.no,.no,.no,.call [(ca x17),(L5 p_x)] (.d (L3 x20)),.call [(ca x17),(L3 x20)] (vb x21),.no,.own,.no,.no,.call [] (vb x22)] 13 [6,112,115,116,119,120,121,122,123,124,125,126] [(6,vb (cond (cond (decide ((x16.length:Int)≥(x1.1.length:Int))) true (cond (x18.2.2==9) (!x21) false)) x22 false))] [cs p_c,cs x17] [((!(decide ((x16.length:Int)≥(x1.1.length:Int))))=true→(!(decide ((x16.length:Int)≥(x1.1.length:Int))))=true),((!(decide ((x16.length:Int)≥(x1.1.length:Int))))=true→(!(decide ((x16.length:Int)≥(x1.1.length:Int))))=true),(((!(decide ((x16.length:Int)≥(x1.1.length:Int))))&&(x18.2.2==9))=true→((!(decide ((x16.length:Int)≥(x1.1.length:Int))))&&(x18.2.2==9))=true),(((!(decide ((x16.length:Int)≥(x1.1.length:Int))))&&(x18.2.2==9))=true→((!(decide ((x16.length:Int)≥(x1.1.length:Int))))&&(x18.2.2==9))=true),(((!(decide ((x16.length:Int)≥(x1.1.length:Int))))&&(x18.2.2==9))=true→PCall Try.prog 37 [(ca x17),(L5 p_x)] (.d (L3 x20))),(((!(decide ((x16.length:Int)≥(x1.1.length:Int))))&&(x18.2.2==9))=true→((!(decide ((x16.length:Int)≥(x1.1.length:Int))))&&(x18.2.2==9))=true),(((!(decide ((x16.length:Int)≥(x1.1.length:Int))))&&(x18.2.2==9))=true→((!(decide ((x16.length:Int)≥(x1.1.length:Int))))&&(x18.2.2==9))=true),(((!(decide ((x16.length:Int)≥(x1.1.length:Int))))&&(x18.2.2==9))=true→PCall Try.prog 38 [(ca x17),(L3 x20)] (vb x21)),(((!(decide ((x16.length:Int)≥(x1.1.length:Int))))&&(x18.2.2==9))=true→((!(decide ((x16.length:Int)≥(x1.1.length:Int))))&&(x18.2.2==9))=true),((!(decide ((x16.length:Int)≥(x1.1.length:Int))))=true→(!(decide ((x16.length:Int)≥(x1.1.length:Int))))=true),((!(decide ((x16.length:Int)≥(x1.1.length:Int))))=true→(x18.2.2==9)=true→((!(decide ((x16.length:Int)≥(x1.1.length:Int))))&&(x18.2.2==9))=true),((decide ((x16.length:Int)≥(x1.1.length:Int)))=false→(!(decide ((x16.length:Int)≥(x1.1.length:Int))))=true),((cond (decide ((x16.length:Int)≥(x1.1.length:Int))) true (cond (x18.2.2==9) (!x21) false))=true→PCall Try.prog 24 [] (vb x22)),((cond (decide ((x16.length:Int)≥(x1.1.length:Int))) true (cond (x18.2.2==9) (!x21) false))=true→(cond (decide ((x16.length:Int)≥(x1.1.length:Int))) true (cond (x18.2.2==9) (!x21) false))=true)] (And.intro (id) (And.intro (id) (And.intro (id) (And.intro (id) (And.intro ((fun hg=>ct37 (optG_of hx20 hg))) (And.intro (id) (And.intro (id) (And.intro ((fun hg=>ct38 (optG_of hx21 hg))) (And.intro (id) (And.intro (id) (And.intro ((fun hg h1=>by first|exact hg|exact h1|(rw [hg,h1];rfl)|(simp only [hg,h1,Bool.not_true,Bool.not_false,Bool.and_self,Bool.true_and,Bool.and_true];done)|(simp only [Bool.and_eq_true] at hg;simp only [hg,h1,Bool.not_true,Bool.not_false,Bool.and_self,Bool.true_and,Bool.and_true];done)|simp_all)) (And.intro (not_of) (And.intro ((fun hg=>ct24 (optG_of hx22 hg))) (id)))))))))))))) ?_
    obtain rfl:=oi h
    refine WB 2 [(6,vb (cond (cond (decide ((x16.length:Int)≥(x1.1.length:Int))) true (cond (x18.2.2==9) (!x21) false)) x22 false))] ?_
    exact awp_ret gm
end Go.Proofs.Ytallnifoeahpiaa
