/- That functions of the seat compute this. Printed by a program of mine. -/
import Derived.Test.YtallnifoeahpiaaS
import Derived.Test.YtallnifoeahpiaaCRA
import Derived.Test.YtallnifoeahpiaaCRB
import Derived.Test.YtallnifoeahpiaaDRC
namespace Go.Proofs.Ytallnifoeahpiaa
open Go Go.Sx
set_option maxRecDepth 100000
set_option linter.unusedVariables false
theorem ct87 {fuel:Nat}  {p_c:S_api_EdCase} {l:(List Int)} {res:Bool} (h:F87 fuel p_c l=some res):PCall Try.prog 87 [(ca p_c),(L3 l)] (vb res):=by
 refine PCall.of_awp tt_ok (N:=46) Try.func87 rfl (by kernel_rfl) rfl (Nat.le_of_ble_eq_true rfl) rfl ?_
 unfold F87 at h
 refine GA [(1,.d (L3 l)),(2,rf 0)] [cs p_c] ?_
 refine HA [(1,.d (L3 l)),(2,rf 0),(5,vi (w64 ((l.length:Int)-1)))] ?_
 refine awp_seq (HA [(1,.d (L3 l)),(2,rf 0),(5,vi (w64 ((l.length:Int)-1))),(6,vi 0)] ?_)
 refine cuo h (fun (ro1:Bool)=>[(4,vb ro1)]) (fun (ro1:Bool)=>[]) (fun (so1:Unit)=>[]) (fun (so1:Unit)=>[cs p_c]) (fun o1 h=>?_) (fun ro1 h=>?_) (fun so1 h=>?_)
 ·refine awp_selQ (WA 1 [(1,.d (L3 l)),(2,rf 0),(5,vi (w64 ((l.length:Int)-1))),(6,vi 0)] [cs p_c] ?_)
  refine awp_block (awp_loop (n:=fuel) ?_)
  refine awpN_ind (fun n (c2:Int)=>F87L1 fuel p_c l n c2) o1 (fun (c2:Int)=>[(1,.d (L3 l)),(2,rf 0),(5,vi (w64 ((l.length:Int)-1))),(6,vi c2)]) (fun (c2:Int)=>[cs p_c]) (fun _=>rfl) ?_ fuel 0 h
  clear h
  intro n3 c2 h hrn3
  change F87L1 fuel p_c l (n3+1) c2=some o1 at h
  rw [F87L1] at h
  refine awp_seq (GA [(1,.d (L3 l)),(2,rf 0),(5,vi (w64 ((l.length:Int)-1))),(6,vi c2),(15,vb (decide (c2<(p_c.Edges.length:Int))))] [cs p_c] ?_)
  refine cd h (fun hb4 h=>?_) (fun hb4 h=>?_)
  ·refine awp_skip ?_
   show awp ..
   refine awp_seq (awp_block ?_)
   obtain ⟨x5,hx5,h⟩:=ob h
   refine GB [.no,.no,.no,.cells (cel71 x5)] [(1,.d (L3 l)),(2,rf 0),(5,vi (w64 ((l.length:Int)-1))),(6,vi c2),(7,rf 1)] [cs p_c,.cells [vi x5.A,vi x5.B,.d (L74 x5.Points)]] [IX71 p_c.Edges c2 x5] (idxOk cel71_len hx5) ?_
   obtain ⟨x6,hx6,h⟩:=ob h
   obtain ⟨x7,hx7,h⟩:=ob h
   obtain ⟨x8,hx8,h⟩:=ob h
   refine hd [1,2,5,6,45] [.no,.no,.no,.no,.no,.no,.no,.no,.no,.no,.no,.no,.no,.cells (cel3 x6),.no,.no,.no,.no,.cells (cel3 x7),.no,.call [(ca p_c),(.agg [(di x5.A),(di x5.B),(L74 x5.Points)]),(di x6),(di x7)] (vb x8)] 20 [1,2,5,6,30,31,32,37,42,43,44,45] [(1,.d (L3 l)),(2,rf 0),(5,vi (w64 ((l.length:Int)-1))),(6,vi c2),(45,vb (cond ((if x5.B>x5.A then x5.B else x5.A)==(w64 ((l.length:Int)-1))) (!x8) false))] [(((if x5.B>x5.A then x5.B else x5.A)==(w64 ((l.length:Int)-1)))=true→((if x5.B>x5.A then x5.B else x5.A)==(w64 ((l.length:Int)-1)))=true),(((if x5.B>x5.A then x5.B else x5.A)==(w64 ((l.length:Int)-1)))=true→((if x5.B>x5.A then x5.B else x5.A)==(w64 ((l.length:Int)-1)))=true),(((if x5.B>x5.A then x5.B else x5.A)==(w64 ((l.length:Int)-1)))=true→((if x5.B>x5.A then x5.B else x5.A)==(w64 ((l.length:Int)-1)))=true),(((if x5.B>x5.A then x5.B else x5.A)==(w64 ((l.length:Int)-1)))=true→IX3 l x5.A x6),(((if x5.B>x5.A then x5.B else x5.A)==(w64 ((l.length:Int)-1)))=true→((if x5.B>x5.A then x5.B else x5.A)==(w64 ((l.length:Int)-1)))=true),(((if x5.B>x5.A then x5.B else x5.A)==(w64 ((l.length:Int)-1)))=true→((if x5.B>x5.A then x5.B else x5.A)==(w64 ((l.length:Int)-1)))=true),(((if x5.B>x5.A then x5.B else x5.A)==(w64 ((l.length:Int)-1)))=true→((if x5.B>x5.A then x5.B else x5.A)==(w64 ((l.length:Int)-1)))=true),(((if x5.B>x5.A then x5.B else x5.A)==(w64 ((l.length:Int)-1)))=true→((if x5.B>x5.A then x5.B else x5.A)==(w64 ((l.length:Int)-1)))=true),(((if x5.B>x5.A then x5.B else x5.A)==(w64 ((l.length:Int)-1)))=true→IX3 l x5.B x7),(((if x5.B>x5.A then x5.B else x5.A)==(w64 ((l.length:Int)-1)))=true→((if x5.B>x5.A then x5.B else x5.A)==(w64 ((l.length:Int)-1)))=true),(((if x5.B>x5.A then x5.B else x5.A)==(w64 ((l.length:Int)-1)))=true→((if x5.B>x5.A then x5.B else x5.A)==(w64 ((l.length:Int)-1)))=true),(((if x5.B>x5.A then x5.B else x5.A)==(w64 ((l.length:Int)-1)))=true→((if x5.B>x5.A then x5.B else x5.A)==(w64 ((l.length:Int)-1)))=true),(((if x5.B>x5.A then x5.B else x5.A)==(w64 ((l.length:Int)-1)))=true→((if x5.B>x5.A then x5.B else x5.A)==(w64 ((l.length:Int)-1)))=true),(((if x5.B>x5.A then x5.B else x5.A)==(w64 ((l.length:Int)-1)))=true→((if x5.B>x5.A then x5.B else x5.A)==(w64 ((l.length:Int)-1)))=true),(((if x5.B>x5.A then x5.B else x5.A)==(w64 ((l.length:Int)-1)))=true→PCall Try.prog 85 [(ca p_c),(.agg [(di x5.A),(di x5.B),(L74 x5.Points)]),(di x6),(di x7)] (vb x8)),(((if x5.B>x5.A then x5.B else x5.A)==(w64 ((l.length:Int)-1)))=true→((if x5.B>x5.A then x5.B else x5.A)==(w64 ((l.length:Int)-1)))=true),(((if x5.B>x5.A then x5.B else x5.A)==(w64 ((l.length:Int)-1)))=true→((if x5.B>x5.A then x5.B else x5.A)==(w64 ((l.length:Int)-1)))=true)] (And.intro (id) (And.intro (id) (And.intro (id) (And.intro ((fun hg=>idxOk cel3_len (optG_of hx6 hg))) (And.intro (id) (And.intro (id) (And.intro (id) (And.intro (id) (And.intro ((fun hg=>idxOk cel3_len (optG_of hx7 hg))) (And.intro (id) (And.intro (id) (And.intro (id) (And.intro (id) (And.intro (id) (And.intro ((fun hg=>ct85 (optG_of hx8 hg))) (And.intro (id) (id))))))))))))))))) ?_
   refine cd h (fun hb9 h=>?_) (fun hb9 h=>?_)
   ·refine GA [(4,vb false)] [cs p_c,.cells [vi x5.A,vi x5.B,.d (L74 x5.Points)]] ?_
    obtain rfl:=oi h
    refine WB 2 [(4,vb false)] ?_
    exact awp_ret (gs [] [4] OutQ.ret)
   ·refine awp_skip ?_
    show awp ..
    refine XA [(1,.d (L3 l)),(2,rf 0),(5,vi (w64 ((l.length:Int)-1))),(6,vi (w64 (c2+1)))] [cs p_c,.cells [vi x5.A,vi x5.B,.d (L74 x5.Points)]] ?_
    exact gn 1 [1,2,5,6] (hrn3 _ h)
  ·refine awp_exit ?_
   obtain rfl:=oi h
   exact gs [0] [] OutQ.norm
 ·obtain rfl:=oi h
  exact gm
 ·show awp ..
  refine GA [(4,vb true)] [cs p_c] ?_
  obtain rfl:=oi h
  refine WB 1 [(4,vb true)] ?_
  exact awp_ret gm
theorem ct65v1B {fuel:Nat} {rec27:S_api_EdCase→(List Int)→Int→Option (S_hachureref02qFound)} (hrec27:∀(p_c:S_api_EdCase) (begin:(List Int)) (sheet:Int) (res:S_hachureref02qFound),rec27 p_c begin sheet=some res→PCall Try.prog 65 [(ca p_c),(L3 begin),(di sheet)] (.d (.agg [(db res.Is),(L3 res.Best),(di res.Range.Lo),(di res.Range.Hi)]))) {p_c:S_api_EdCase} {begin:(List Int)} {sheet:Int} {res:S_hachureref02qFound} (h:B65v1 fuel rec27 p_c begin sheet=some res):PCall Try.prog 65 [(ca p_c),(L3 begin),(di sheet)] (.d (.agg [(db res.Is),(L3 res.Best),(di res.Range.Lo),(di res.Range.Hi)])):=by
 refine PCall.of_awp tt_ok (N:=93) Try.func65 rfl (by kernel_rfl) rfl (Nat.le_of_ble_eq_true rfl) rfl ?_
 unfold B65v1 at h
 refine GA [(1,.d (L3 begin)),(2,vi sheet),(3,rf 0),(6,rf 1)] [cs p_c,.cells [vb false,.d dnil,vi 0,vi 0]] ?_
 refine awp_seq (HA [(1,.d (L3 begin)),(2,vi sheet),(3,rf 0),(6,rf 1),(17,vb ((begin.length:Int)==(p_c.Sheets.length:Int)))] ?_)
 refine cd h (fun hb1 h=>?_) (fun hb1 h=>?_)
 ·obtain ⟨x2,hx2,h⟩:=ob h
  obtain ⟨x3,hx3,h⟩:=ob h
  refine sd [6] [.no,.no,.no,.cells (cel3 x2),.no,.no,.no,.cells (cel3 x3)] 10 [6,18,27,28] [(6,rf 1)] [cs p_c,.cells [vb true,.d (L3 begin),vi x2,vi x3]] [IX3 begin sheet x2,IX3 begin sheet x3] (And.intro (idxOk cel3_len hx2) (idxOk cel3_len hx3)) ?_
  obtain rfl:=oi h
  refine WB 2 [(6,rf 1)] ?_
  exact awp_ret gm
 ·refine awp_skip ?_
  show awp ..
  refine GA [(1,.d (L3 begin)),(2,vi sheet),(3,rf 0),(6,rf 1),(7,rf 2)] [cs p_c,.cells [vb false,.d dnil,vi 0,vi 0],.cells [vb false,.d dnil,vi 0,vi 0]] ?_
  obtain ⟨x4,hx4,h⟩:=ob h
  refine HB [.no,.no,.no,.no,.cells (cel66 x4)] [(1,.d (L3 begin)),(2,vi sheet),(3,rf 0),(6,rf 1),(7,rf 2),(8,vi x4.Most)] [IX66 p_c.Sheets (begin.length:Int) x4] (idxOk cel66_len hx4) ?_
  refine awp_seq (HA [(1,.d (L3 begin)),(2,vi sheet),(3,rf 0),(6,rf 1),(7,rf 2),(8,vi x4.Most),(9,vi (w64 (0-x4.Most)))] ?_)
  refine awp_laxC 2 1 _ (L3 ([]:List Int)) [vb false,.d dnil,vi 0,vi 0] [cs p_c,.cells [vb false,.d dnil,vi 0,vi 0],.cells [vb false,.d (L3 ([]:List Int)),vi 0,vi 0]] (by kernel_rfl) (by kernel_rfl) (.nil (e:=1)) (by kernel_rfl) ?_
  refine WA 3 [(1,.d (L3 begin)),(2,vi sheet),(3,rf 0),(6,rf 1),(7,rf 2),(8,vi x4.Most),(9,vi (w64 (0-x4.Most)))] [cs p_c,.cells [vb false,.d dnil,vi 0,vi 0],.cells [vb false,.d (L3 ([]:List Int)),vi 0,vi 0]] ?_
  refine cuo h (fun (ro6:S_hachureref02qFound)=>[(6,rf 0)]) (fun (ro6:S_hachureref02qFound)=>[.cells [vb ro6.Is,.d (L3 ro6.Best),vi ro6.Range.Lo,vi ro6.Range.Hi]]) (fun (so6:Bool×(List Int)×Int×Int)=>[(6,rf 1),(7,rf 2)]) (fun (so6:Bool×(List Int)×Int×Int)=>[cs p_c,.cells [vb false,.d dnil,vi 0,vi 0],.cells [vb so6.1,.d (L3 so6.2.1),vi so6.2.2.1,vi so6.2.2.2]]) (fun o6 h=>?_) (fun ro6 h=>?_) (fun so6 h=>?_)
  ·refine awp_selQ (WA 3 [(1,.d (L3 begin)),(2,vi sheet),(3,rf 0),(6,rf 1),(7,rf 2),(8,vi x4.Most),(9,vi (w64 (0-x4.Most)))] [cs p_c,.cells [vb false,.d dnil,vi 0,vi 0],.cells [vb false,.d (L3 ([]:List Int)),vi 0,vi 0]] ?_)
   refine awp_block (awp_loop (n:=fuel) ?_)
   refine awpN_ind (fun n (c7:Int×Bool×(List Int)×Int×Int)=>F65v1L1 fuel rec27 p_c begin sheet x4 n c7) o6 (fun (c7:Int×Bool×(List Int)×Int×Int)=>[(1,.d (L3 begin)),(2,vi sheet),(3,rf 0),(6,rf 1),(7,rf 2),(8,vi x4.Most),(9,vi c7.1)]) (fun (c7:Int×Bool×(List Int)×Int×Int)=>[cs p_c,.cells [vb false,.d dnil,vi 0,vi 0],.cells [vb c7.2.1,.d (L3 c7.2.2.1),vi c7.2.2.2.1,vi c7.2.2.2.2]]) (fun _=>rfl) ?_ fuel ((w64 (0-x4.Most)),false,([]:List Int),0,0) h
   clear h
   intro n8 c7 h hrn8
   change F65v1L1 fuel rec27 p_c begin sheet x4 (n8+1) c7=some o6 at h
   rw [F65v1L1] at h
   refine awp_seq (GA [(1,.d (L3 begin)),(2,vi sheet),(3,rf 0),(6,rf 1),(7,rf 2),(8,vi x4.Most),(9,vi c7.1),(40,vb (decide (c7.1≤x4.Most)))] [cs p_c,.cells [vb false,.d dnil,vi 0,vi 0],.cells [vb c7.2.1,.d (L3 c7.2.2.1),vi c7.2.2.2.1,vi c7.2.2.2.2]] ?_)
   refine cd h (fun hb9 h=>?_) (fun hb9 h=>?_)
   ·refine awp_skip ?_
    show awp ..
    refine awp_seq (awp_block ?_)
    obtain ⟨x10,hx10,h⟩:=ob h
    obtain ⟨x11,hx11,h⟩:=ob h
    refine GB [.own,.no,.list (([]:List Int)++begin).length ((([]:List Int)++begin).flatMap cel3),.no,.no,.list ((([]:List Int)++begin)++([c7.1]:List Int)).length (((([]:List Int)++begin)++([c7.1]:List Int)).flatMap cel3)] [(1,.d (L3 begin)),(2,vi sheet),(3,rf 0),(6,rf 1),(7,rf 2),(8,vi x4.Most),(9,vi c7.1),(10,.sl 1 3 0 ((([]:List Int)++begin)++([c7.1]:List Int)).length)] [cs p_c,.cells [vb false,.d dnil,vi 0,vi 0],.cells [vb c7.2.1,.d (L3 c7.2.2.1),vi c7.2.2.2.1,vi c7.2.2.2.2],.data (((([]:List Int)++begin)++([c7.1]:List Int)).flatMap cel3)] [AppendOk ((([]:List Int).flatMap cel3).map .d) ([]:List Int).length begin.length (([]:List Int)++begin).length 1 8 (begin.flatMap cel3) ((([]:List Int)++begin).flatMap cel3),AppendOk (((([]:List Int)++begin).flatMap cel3).map .d) (([]:List Int)++begin).length ([c7.1]:List Int).length ((([]:List Int)++begin)++([c7.1]:List Int)).length 1 8 (([c7.1]:List Int).flatMap cel3) (((([]:List Int)++begin)++([c7.1]:List Int)).flatMap cel3)] (And.intro (appendOk cel3_len (need_of hx10)) (appendOk cel3_len (need_of hx11))) ?_
    refine awp_seq ?_
    obtain ⟨x12,hx12,h⟩:=ob h
    refine HB [.no,.no,.call [(ca p_c),(L3 ((([]:List Int)++begin)++([c7.1]:List Int)))] (vb x12)] [(1,.d (L3 begin)),(2,vi sheet),(3,rf 0),(6,rf 1),(7,rf 2),(8,vi x4.Most),(9,vi c7.1),(10,.sl 1 3 0 ((([]:List Int)++begin)++([c7.1]:List Int)).length),(52,vb (!x12))] [argsOk [cs p_c,.cells [vb false,.d dnil,vi 0,vi 0],.cells [vb c7.2.1,.d (L3 c7.2.2.1),vi c7.2.2.2.1,vi c7.2.2.2.2],.data (((([]:List Int)++begin)++([c7.1]:List Int)).flatMap cel3)] [.d (ca p_c),.sl 1 3 0 ((([]:List Int)++begin)++([c7.1]:List Int)).length] [(ca p_c),(L3 ((([]:List Int)++begin)++([c7.1]:List Int)))],PCall Try.prog 87 [(ca p_c),(L3 ((([]:List Int)++begin)++([c7.1]:List Int)))] (vb x12)] (And.intro ((And.intro (rfl) (And.intro (lentOk cel3_len rfl) trivial))) (ct87 hx12)) ?_
    refine cd h (fun hb13 h=>?_) (fun hb13 h=>?_)
    ·refine awp_exit ?_
     show awp ..
     refine XA [(1,.d (L3 begin)),(2,vi sheet),(3,rf 0),(6,rf 1),(7,rf 2),(8,vi x4.Most),(9,vi (w64 (c7.1+1)))] [cs p_c,.cells [vb false,.d dnil,vi 0,vi 0],.cells [vb c7.2.1,.d (L3 c7.2.2.1),vi c7.2.2.2.1,vi c7.2.2.2.2],.data (((([]:List Int)++begin)++([c7.1]:List Int)).flatMap cel3)] ?_
     exact gn 3 [1,2,3,6,7,8,9] (hrn8 _ h)
    ·refine awp_skip ?_
     show awp ..
     refine awp_freeze 10 3 (((([]:List Int)++begin)++([c7.1]:List Int)).flatMap cel3) (.sl 1 3 0 ((([]:List Int)++begin)++([c7.1]:List Int)).length) (.d (L3 ((([]:List Int)++begin)++([c7.1]:List Int)))) _ _ (ps:=[(((([]:List Int)++begin)++([c7.1]:List Int)).flatMap cel3).length=((([]:List Int)++begin)++([c7.1]:List Int)).length*1]) (by kernel_rfl) (by kernel_rfl) (by kernel_rfl) (flatMap_len cel3 1 cel3_len ((([]:List Int)++begin)++([c7.1]:List Int))) rfl rfl ?_
     refine WA 4 [(1,.d (L3 begin)),(2,vi sheet),(3,rf 0),(6,rf 1),(7,rf 2),(8,vi x4.Most),(9,vi c7.1),(10,.d (L3 ((([]:List Int)++begin)++([c7.1]:List Int)))),(52,vb (!x12))] [cs p_c,.cells [vb false,.d dnil,vi 0,vi 0],.cells [vb c7.2.1,.d (L3 c7.2.2.1),vi c7.2.2.2.1,vi c7.2.2.2.2],.data (([]:List Int).flatMap cel3)] ?_
     obtain ⟨x14,hx14,h⟩:=ob h
     refine GB [.no,.no,.no,.call [(ca p_c),(L3 ((([]:List Int)++begin)++([c7.1]:List Int))),(di sheet)] (.d (.agg [(db x14.Is),(L3 x14.Best),(di x14.Range.Lo),(di x14.Range.Hi)]))] [(1,.d (L3 begin)),(2,vi sheet),(3,rf 0),(6,rf 1),(7,rf 2),(8,vi x4.Most),(9,vi c7.1),(11,rf 4)] [cs p_c,.cells [vb false,.d dnil,vi 0,vi 0],.cells [vb c7.2.1,.d (L3 c7.2.2.1),vi c7.2.2.2.1,vi c7.2.2.2.2],.data (([]:List Int).flatMap cel3),.cells [vb x14.Is,.d (L3 x14.Best),vi x14.Range.Lo,vi x14.Range.Hi]] [PCall Try.prog 65 [(ca p_c),(L3 ((([]:List Int)++begin)++([c7.1]:List Int))),(di sheet)] (.d (.agg [(db x14.Is),(L3 x14.Best),(di x14.Range.Lo),(di x14.Range.Hi)]))] (hrec27 _ _ _ _ hx14) ?_
     refine awp_seq (HA [(1,.d (L3 begin)),(2,vi sheet),(3,rf 0),(6,rf 1),(7,rf 2),(8,vi x4.Most),(9,vi c7.1),(11,rf 4),(59,vb (!x14.Is))] ?_)
     refine cd h (fun hb15 h=>?_) (fun hb15 h=>?_)
     ·refine awp_exit ?_
      show awp ..
      refine XA [(1,.d (L3 begin)),(2,vi sheet),(3,rf 0),(6,rf 1),(7,rf 2),(8,vi x4.Most),(9,vi (w64 (c7.1+1)))] [cs p_c,.cells [vb false,.d dnil,vi 0,vi 0],.cells [vb c7.2.1,.d (L3 c7.2.2.1),vi c7.2.2.2.1,vi c7.2.2.2.2],.data (([]:List Int).flatMap cel3),.cells [vb x14.Is,.d (L3 x14.Best),vi x14.Range.Lo,vi x14.Range.Hi]] ?_
      exact gn 3 [1,2,3,6,7,8,9] (hrn8 _ h)
     ·refine awp_skip ?_
      show awp ..
      refine awp_seq (GA [(1,.d (L3 begin)),(2,vi sheet),(3,rf 0),(6,rf 1),(7,rf 2),(8,vi x4.Most),(9,vi c7.1),(11,rf 4),(62,vb (!c7.2.1))] [cs p_c,.cells [vb false,.d dnil,vi 0,vi 0],.cells [vb c7.2.1,.d (L3 c7.2.2.1),vi c7.2.2.2.1,vi c7.2.2.2.2],.data (([]:List Int).flatMap cel3),.cells [vb x14.Is,.d (L3 x14.Best),vi x14.Range.Lo,vi x14.Range.Hi]] ?_)
      refine cd h (fun hb16 h=>?_) (fun hb16 h=>?_)
      ·refine GA [(1,.d (L3 begin)),(2,vi sheet),(3,rf 0),(6,rf 1),(7,rf 2),(8,vi x4.Most),(9,vi c7.1)] [cs p_c,.cells [vb false,.d dnil,vi 0,vi 0],.cells [vb x14.Is,.d (L3 x14.Best),vi x14.Range.Lo,vi x14.Range.Hi],.data (([]:List Int).flatMap cel3),.cells [vb x14.Is,.d (L3 x14.Best),vi x14.Range.Lo,vi x14.Range.Hi]] ?_
       refine awp_exit ?_
       show awp ..
       refine XA [(1,.d (L3 begin)),(2,vi sheet),(3,rf 0),(6,rf 1),(7,rf 2),(8,vi x4.Most),(9,vi (w64 (c7.1+1)))] [cs p_c,.cells [vb false,.d dnil,vi 0,vi 0],.cells [vb x14.Is,.d (L3 x14.Best),vi x14.Range.Lo,vi x14.Range.Hi],.data (([]:List Int).flatMap cel3),.cells [vb x14.Is,.d (L3 x14.Best),vi x14.Range.Lo,vi x14.Range.Hi]] ?_
       exact gn 3 [1,2,3,6,7,8,9] (hrn8 _ h)
      ·refine awp_skip ?_
       show awp ..
       refine awp_seq ?_
       obtain ⟨x17,hx17,h⟩:=ob h
       obtain ⟨x18,hx18,h⟩:=ob h
       refine sd [1,2,3,6,7,8,9,11,72] [.no,.no,.no,.call [(ca p_c),(L3 x14.Best)] (vi x17),.no,.no,.no,.call [(ca p_c),(L3 c7.2.2.1)] (vi x18)] 7 [1,2,3,6,7,8,9,11,67,68,70,71,72] [(1,.d (L3 begin)),(2,vi sheet),(3,rf 0),(6,rf 1),(7,rf 2),(8,vi x4.Most),(9,vi c7.1),(11,rf 4),(72,vb (decide (x17<x18)))] [cs p_c,.cells [vb false,.d dnil,vi 0,vi 0],.cells [vb c7.2.1,.d (L3 c7.2.2.1),vi c7.2.2.2.1,vi c7.2.2.2.2],.data (([]:List Int).flatMap cel3),.cells [vb x14.Is,.d (L3 x14.Best),vi x14.Range.Lo,vi x14.Range.Hi]] [PCall Try.prog 39 [(ca p_c),(L3 x14.Best)] (vi x17),PCall Try.prog 39 [(ca p_c),(L3 c7.2.2.1)] (vi x18)] (And.intro (ct39 hx17) (ct39 hx18)) ?_
       refine cd h (fun hb19 h=>?_) (fun hb19 h=>?_)
       ·refine XA [(1,.d (L3 begin)),(2,vi sheet),(3,rf 0),(6,rf 1),(7,rf 2),(8,vi x4.Most),(9,vi c7.1),(11,rf 4)] [cs p_c,.cells [vb false,.d dnil,vi 0,vi 0],.cells [vb c7.2.1,.d (L3 x14.Best),vi c7.2.2.2.1,vi c7.2.2.2.2],.data (([]:List Int).flatMap cel3),.cells [vb x14.Is,.d (L3 x14.Best),vi x14.Range.Lo,vi x14.Range.Hi]] ?_
        show awp ..
        refine XA [(1,.d (L3 begin)),(2,vi sheet),(3,rf 0),(6,rf 1),(7,rf 2),(8,vi x4.Most),(9,vi c7.1)] [cs p_c,.cells [vb false,.d dnil,vi 0,vi 0],.cells [vb c7.2.1,.d (L3 x14.Best),vi (if x14.Range.Lo<c7.2.2.2.1 then x14.Range.Lo else c7.2.2.2.1),vi (if x14.Range.Hi>c7.2.2.2.2 then x14.Range.Hi else c7.2.2.2.2)],.data (([]:List Int).flatMap cel3),.cells [vb x14.Is,.d (L3 x14.Best),vi x14.Range.Lo,vi x14.Range.Hi]] ?_
        show awp ..
        refine YA [(1,.d (L3 begin)),(2,vi sheet),(3,rf 0),(6,rf 1),(7,rf 2),(8,vi x4.Most),(9,vi (w64 (c7.1+1)))] ?_
        exact gn 3 [1,2,3,6,7,8,9] (hrn8 _ h)
       ·refine awp_skip ?_
        show awp ..
        refine XA [(1,.d (L3 begin)),(2,vi sheet),(3,rf 0),(6,rf 1),(7,rf 2),(8,vi x4.Most),(9,vi c7.1)] [cs p_c,.cells [vb false,.d dnil,vi 0,vi 0],.cells [vb c7.2.1,.d (L3 c7.2.2.1),vi (if x14.Range.Lo<c7.2.2.2.1 then x14.Range.Lo else c7.2.2.2.1),vi (if x14.Range.Hi>c7.2.2.2.2 then x14.Range.Hi else c7.2.2.2.2)],.data (([]:List Int).flatMap cel3),.cells [vb x14.Is,.d (L3 x14.Best),vi x14.Range.Lo,vi x14.Range.Hi]] ?_
        show awp ..
        refine YA [(1,.d (L3 begin)),(2,vi sheet),(3,rf 0),(6,rf 1),(7,rf 2),(8,vi x4.Most),(9,vi (w64 (c7.1+1)))] ?_
        exact gn 3 [1,2,3,6,7,8,9] (hrn8 _ h)
   ·refine awp_exit ?_
    obtain rfl:=oi h
    exact gs [0,1,2] [6,7] OutQ.norm
  ·obtain rfl:=oi h
   exact gm
  ·show awp ..
   refine GA [(6,rf 1)] [cs p_c,.cells [vb so6.1,.d (L3 so6.2.1),vi so6.2.2.1,vi so6.2.2.2],.cells [vb so6.1,.d (L3 so6.2.1),vi so6.2.2.1,vi so6.2.2.2]] ?_
   obtain rfl:=oi h
   refine WB 3 [(6,rf 1)] ?_
   exact awp_ret gm
theorem ct65v1:∀{fuel:Nat} {p_c:S_api_EdCase} {begin:(List Int)} {sheet:Int} {res:S_hachureref02qFound},F65v1 fuel p_c begin sheet=some res→PCall Try.prog 65 [(ca p_c),(L3 begin),(di sheet)] (.d (.agg [(db res.Is),(L3 res.Best),(di res.Range.Lo),(di res.Range.Hi)])):=by
 intro fuel
 induction fuel with
 | zero=>intro _ _ _ _ h;exact absurd h (by simp [F65v1])
 | succ n ih=>intro _ _ _ _ h;exact ct65v1B (fun _ _ _ _ h=>ih h) h
theorem ct65 {fuel:Nat}  {p_c:S_api_EdCase} {begin:(List Int)} {sheet:Int} {res:S_hachureref02qFound} (h:F65 fuel p_c begin sheet=some res):PCall Try.prog 65 [(ca p_c),dnil,(di sheet)] (.d (.agg [(db res.Is),(L3 res.Best),(di res.Range.Lo),(di res.Range.Hi)])):=by
 refine PCall.of_awp tt_ok (N:=93) Try.func65 rfl (by kernel_rfl) rfl (Nat.le_of_ble_eq_true rfl) rfl ?_
 unfold F65 at h
 refine GA [(1,.d dnil),(2,vi sheet),(3,rf 0),(6,rf 1)] [cs p_c,.cells [vb false,.d dnil,vi 0,vi 0]] ?_
 refine awp_seq (HA [(1,.d dnil),(2,vi sheet),(3,rf 0),(6,rf 1),(17,vb (0==(p_c.Sheets.length:Int)))] ?_)
 refine cd h (fun hb1 h=>?_) (fun hb1 h=>?_)
 ·refine awp_laxT 1 _ (L3 ([]:List Int)) [(1,.d (L3 ([]:List Int))),(2,vi sheet),(3,rf 0),(6,rf 1),(17,vb (0==(p_c.Sheets.length:Int)))] (by kernel_rfl) (.nil (e:=1)) (by kernel_rfl) ?_
  obtain ⟨x2,hx2,h⟩:=ob h
  obtain ⟨x3,hx3,h⟩:=ob h
  refine sd [6] [.no,.no,.no,.cells (cel3 x2),.no,.no,.no,.cells (cel3 x3)] 10 [6,18,27,28] [(6,rf 1)] [cs p_c,.cells [vb true,.d (L3 ([]:List Int)),vi x2,vi x3]] [IX3 ([]:List Int) sheet x2,IX3 ([]:List Int) sheet x3] (And.intro (idxOk cel3_len hx2) (idxOk cel3_len hx3)) ?_
  obtain rfl:=oi h
  refine WB 2 [(6,rf 1)] ?_
  exact awp_ret gm
 ·refine awp_skip ?_
  show awp ..
  refine GA [(1,.d dnil),(2,vi sheet),(3,rf 0),(6,rf 1),(7,rf 2)] [cs p_c,.cells [vb false,.d dnil,vi 0,vi 0],.cells [vb false,.d dnil,vi 0,vi 0]] ?_
  obtain ⟨x4,hx4,h⟩:=ob h
  refine HB [.no,.no,.no,.no,.cells (cel66 x4)] [(1,.d dnil),(2,vi sheet),(3,rf 0),(6,rf 1),(7,rf 2),(8,vi x4.Most)] [IX66 p_c.Sheets 0 x4] (idxOk cel66_len hx4) ?_
  refine awp_seq (HA [(1,.d dnil),(2,vi sheet),(3,rf 0),(6,rf 1),(7,rf 2),(8,vi x4.Most),(9,vi (w64 (0-x4.Most)))] ?_)
  refine awp_laxC 2 1 _ (L3 ([]:List Int)) [vb false,.d dnil,vi 0,vi 0] [cs p_c,.cells [vb false,.d dnil,vi 0,vi 0],.cells [vb false,.d (L3 ([]:List Int)),vi 0,vi 0]] (by kernel_rfl) (by kernel_rfl) (.nil (e:=1)) (by kernel_rfl) ?_
  refine WA 3 [(1,.d dnil),(2,vi sheet),(3,rf 0),(6,rf 1),(7,rf 2),(8,vi x4.Most),(9,vi (w64 (0-x4.Most)))] [cs p_c,.cells [vb false,.d dnil,vi 0,vi 0],.cells [vb false,.d (L3 ([]:List Int)),vi 0,vi 0]] ?_
  refine cuo h (fun (ro6:S_hachureref02qFound)=>[(6,rf 0)]) (fun (ro6:S_hachureref02qFound)=>[.cells [vb ro6.Is,.d (L3 ro6.Best),vi ro6.Range.Lo,vi ro6.Range.Hi]]) (fun (so6:Bool×(List Int)×Int×Int)=>[(6,rf 1),(7,rf 2)]) (fun (so6:Bool×(List Int)×Int×Int)=>[cs p_c,.cells [vb false,.d dnil,vi 0,vi 0],.cells [vb so6.1,.d (L3 so6.2.1),vi so6.2.2.1,vi so6.2.2.2]]) (fun o6 h=>?_) (fun ro6 h=>?_) (fun so6 h=>?_)
  ·refine awp_selQ (WA 3 [(1,.d dnil),(2,vi sheet),(3,rf 0),(6,rf 1),(7,rf 2),(8,vi x4.Most),(9,vi (w64 (0-x4.Most)))] [cs p_c,.cells [vb false,.d dnil,vi 0,vi 0],.cells [vb false,.d (L3 ([]:List Int)),vi 0,vi 0]] ?_)
   refine awp_block (awp_loop (n:=fuel) ?_)
   refine awpN_ind (fun n (c7:Int×Bool×(List Int)×Int×Int)=>F65L1 fuel p_c sheet x4 n c7) o6 (fun (c7:Int×Bool×(List Int)×Int×Int)=>[(1,.d dnil),(2,vi sheet),(3,rf 0),(6,rf 1),(7,rf 2),(8,vi x4.Most),(9,vi c7.1)]) (fun (c7:Int×Bool×(List Int)×Int×Int)=>[cs p_c,.cells [vb false,.d dnil,vi 0,vi 0],.cells [vb c7.2.1,.d (L3 c7.2.2.1),vi c7.2.2.2.1,vi c7.2.2.2.2]]) (fun _=>rfl) ?_ fuel ((w64 (0-x4.Most)),false,([]:List Int),0,0) h
   clear h
   intro n8 c7 h hrn8
   change F65L1 fuel p_c sheet x4 (n8+1) c7=some o6 at h
   rw [F65L1] at h
   refine awp_seq (GA [(1,.d dnil),(2,vi sheet),(3,rf 0),(6,rf 1),(7,rf 2),(8,vi x4.Most),(9,vi c7.1),(40,vb (decide (c7.1≤x4.Most)))] [cs p_c,.cells [vb false,.d dnil,vi 0,vi 0],.cells [vb c7.2.1,.d (L3 c7.2.2.1),vi c7.2.2.2.1,vi c7.2.2.2.2]] ?_)
   refine cd h (fun hb9 h=>?_) (fun hb9 h=>?_)
   ·refine awp_skip ?_
    show awp ..
    refine awp_seq (awp_block ?_)
    obtain ⟨x10,hx10,h⟩:=ob h
    obtain ⟨x11,hx11,h⟩:=ob h
    refine GB [.own,.no,.list (([]:List Int)++([]:List Int)).length ((([]:List Int)++([]:List Int)).flatMap cel3),.no,.no,.list ((([]:List Int)++([]:List Int))++([c7.1]:List Int)).length (((([]:List Int)++([]:List Int))++([c7.1]:List Int)).flatMap cel3)] [(1,.d dnil),(2,vi sheet),(3,rf 0),(6,rf 1),(7,rf 2),(8,vi x4.Most),(9,vi c7.1),(10,.sl 1 3 0 ((([]:List Int)++([]:List Int))++([c7.1]:List Int)).length)] [cs p_c,.cells [vb false,.d dnil,vi 0,vi 0],.cells [vb c7.2.1,.d (L3 c7.2.2.1),vi c7.2.2.2.1,vi c7.2.2.2.2],.data (((([]:List Int)++([]:List Int))++([c7.1]:List Int)).flatMap cel3)] [AppendOk ((([]:List Int).flatMap cel3).map .d) ([]:List Int).length ([]:List Int).length (([]:List Int)++([]:List Int)).length 1 8 (([]:List Int).flatMap cel3) ((([]:List Int)++([]:List Int)).flatMap cel3),AppendOk (((([]:List Int)++([]:List Int)).flatMap cel3).map .d) (([]:List Int)++([]:List Int)).length ([c7.1]:List Int).length ((([]:List Int)++([]:List Int))++([c7.1]:List Int)).length 1 8 (([c7.1]:List Int).flatMap cel3) (((([]:List Int)++([]:List Int))++([c7.1]:List Int)).flatMap cel3)] (And.intro (appendOk cel3_len (need_of hx10)) (appendOk cel3_len (need_of hx11))) ?_
    refine awp_seq ?_
    obtain ⟨x12,hx12,h⟩:=ob h
    refine HB [.no,.no,.call [(ca p_c),(L3 ((([]:List Int)++([]:List Int))++([c7.1]:List Int)))] (vb x12)] [(1,.d dnil),(2,vi sheet),(3,rf 0),(6,rf 1),(7,rf 2),(8,vi x4.Most),(9,vi c7.1),(10,.sl 1 3 0 ((([]:List Int)++([]:List Int))++([c7.1]:List Int)).length),(52,vb (!x12))] [argsOk [cs p_c,.cells [vb false,.d dnil,vi 0,vi 0],.cells [vb c7.2.1,.d (L3 c7.2.2.1),vi c7.2.2.2.1,vi c7.2.2.2.2],.data (((([]:List Int)++([]:List Int))++([c7.1]:List Int)).flatMap cel3)] [.d (ca p_c),.sl 1 3 0 ((([]:List Int)++([]:List Int))++([c7.1]:List Int)).length] [(ca p_c),(L3 ((([]:List Int)++([]:List Int))++([c7.1]:List Int)))],PCall Try.prog 87 [(ca p_c),(L3 ((([]:List Int)++([]:List Int))++([c7.1]:List Int)))] (vb x12)] (And.intro ((And.intro (rfl) (And.intro (lentOk cel3_len rfl) trivial))) (ct87 hx12)) ?_
    refine cd h (fun hb13 h=>?_) (fun hb13 h=>?_)
    ·refine awp_exit ?_
     show awp ..
     refine XA [(1,.d dnil),(2,vi sheet),(3,rf 0),(6,rf 1),(7,rf 2),(8,vi x4.Most),(9,vi (w64 (c7.1+1)))] [cs p_c,.cells [vb false,.d dnil,vi 0,vi 0],.cells [vb c7.2.1,.d (L3 c7.2.2.1),vi c7.2.2.2.1,vi c7.2.2.2.2],.data (((([]:List Int)++([]:List Int))++([c7.1]:List Int)).flatMap cel3)] ?_
     exact gn 3 [1,2,3,6,7,8,9] (hrn8 _ h)
    ·refine awp_skip ?_
     show awp ..
     refine awp_freeze 10 3 (((([]:List Int)++([]:List Int))++([c7.1]:List Int)).flatMap cel3) (.sl 1 3 0 ((([]:List Int)++([]:List Int))++([c7.1]:List Int)).length) (.d (L3 ((([]:List Int)++([]:List Int))++([c7.1]:List Int)))) _ _ (ps:=[(((([]:List Int)++([]:List Int))++([c7.1]:List Int)).flatMap cel3).length=((([]:List Int)++([]:List Int))++([c7.1]:List Int)).length*1]) (by kernel_rfl) (by kernel_rfl) (by kernel_rfl) (flatMap_len cel3 1 cel3_len ((([]:List Int)++([]:List Int))++([c7.1]:List Int))) rfl rfl ?_
     refine WA 4 [(1,.d dnil),(2,vi sheet),(3,rf 0),(6,rf 1),(7,rf 2),(8,vi x4.Most),(9,vi c7.1),(10,.d (L3 ((([]:List Int)++([]:List Int))++([c7.1]:List Int)))),(52,vb (!x12))] [cs p_c,.cells [vb false,.d dnil,vi 0,vi 0],.cells [vb c7.2.1,.d (L3 c7.2.2.1),vi c7.2.2.2.1,vi c7.2.2.2.2],.data (([]:List Int).flatMap cel3)] ?_
     obtain ⟨x14,hx14,h⟩:=ob h
     refine GB [.no,.no,.no,.call [(ca p_c),(L3 ((([]:List Int)++([]:List Int))++([c7.1]:List Int))),(di sheet)] (.d (.agg [(db x14.Is),(L3 x14.Best),(di x14.Range.Lo),(di x14.Range.Hi)]))] [(1,.d dnil),(2,vi sheet),(3,rf 0),(6,rf 1),(7,rf 2),(8,vi x4.Most),(9,vi c7.1),(11,rf 4)] [cs p_c,.cells [vb false,.d dnil,vi 0,vi 0],.cells [vb c7.2.1,.d (L3 c7.2.2.1),vi c7.2.2.2.1,vi c7.2.2.2.2],.data (([]:List Int).flatMap cel3),.cells [vb x14.Is,.d (L3 x14.Best),vi x14.Range.Lo,vi x14.Range.Hi]] [PCall Try.prog 65 [(ca p_c),(L3 ((([]:List Int)++([]:List Int))++([c7.1]:List Int))),(di sheet)] (.d (.agg [(db x14.Is),(L3 x14.Best),(di x14.Range.Lo),(di x14.Range.Hi)]))] (ct65v1 hx14) ?_
     refine awp_seq (HA [(1,.d dnil),(2,vi sheet),(3,rf 0),(6,rf 1),(7,rf 2),(8,vi x4.Most),(9,vi c7.1),(11,rf 4),(59,vb (!x14.Is))] ?_)
     refine cd h (fun hb15 h=>?_) (fun hb15 h=>?_)
     ·refine awp_exit ?_
      show awp ..
      refine XA [(1,.d dnil),(2,vi sheet),(3,rf 0),(6,rf 1),(7,rf 2),(8,vi x4.Most),(9,vi (w64 (c7.1+1)))] [cs p_c,.cells [vb false,.d dnil,vi 0,vi 0],.cells [vb c7.2.1,.d (L3 c7.2.2.1),vi c7.2.2.2.1,vi c7.2.2.2.2],.data (([]:List Int).flatMap cel3),.cells [vb x14.Is,.d (L3 x14.Best),vi x14.Range.Lo,vi x14.Range.Hi]] ?_
      exact gn 3 [1,2,3,6,7,8,9] (hrn8 _ h)
     ·refine awp_skip ?_
      show awp ..
      refine awp_seq (GA [(1,.d dnil),(2,vi sheet),(3,rf 0),(6,rf 1),(7,rf 2),(8,vi x4.Most),(9,vi c7.1),(11,rf 4),(62,vb (!c7.2.1))] [cs p_c,.cells [vb false,.d dnil,vi 0,vi 0],.cells [vb c7.2.1,.d (L3 c7.2.2.1),vi c7.2.2.2.1,vi c7.2.2.2.2],.data (([]:List Int).flatMap cel3),.cells [vb x14.Is,.d (L3 x14.Best),vi x14.Range.Lo,vi x14.Range.Hi]] ?_)
      refine cd h (fun hb16 h=>?_) (fun hb16 h=>?_)
      ·refine GA [(1,.d dnil),(2,vi sheet),(3,rf 0),(6,rf 1),(7,rf 2),(8,vi x4.Most),(9,vi c7.1)] [cs p_c,.cells [vb false,.d dnil,vi 0,vi 0],.cells [vb x14.Is,.d (L3 x14.Best),vi x14.Range.Lo,vi x14.Range.Hi],.data (([]:List Int).flatMap cel3),.cells [vb x14.Is,.d (L3 x14.Best),vi x14.Range.Lo,vi x14.Range.Hi]] ?_
       refine awp_exit ?_
       show awp ..
       refine XA [(1,.d dnil),(2,vi sheet),(3,rf 0),(6,rf 1),(7,rf 2),(8,vi x4.Most),(9,vi (w64 (c7.1+1)))] [cs p_c,.cells [vb false,.d dnil,vi 0,vi 0],.cells [vb x14.Is,.d (L3 x14.Best),vi x14.Range.Lo,vi x14.Range.Hi],.data (([]:List Int).flatMap cel3),.cells [vb x14.Is,.d (L3 x14.Best),vi x14.Range.Lo,vi x14.Range.Hi]] ?_
       exact gn 3 [1,2,3,6,7,8,9] (hrn8 _ h)
      ·refine awp_skip ?_
       show awp ..
       refine awp_seq ?_
       obtain ⟨x17,hx17,h⟩:=ob h
       obtain ⟨x18,hx18,h⟩:=ob h
       refine sd [1,2,3,6,7,8,9,11,72] [.no,.no,.no,.call [(ca p_c),(L3 x14.Best)] (vi x17),.no,.no,.no,.call [(ca p_c),(L3 c7.2.2.1)] (vi x18)] 7 [1,2,3,6,7,8,9,11,67,68,70,71,72] [(1,.d dnil),(2,vi sheet),(3,rf 0),(6,rf 1),(7,rf 2),(8,vi x4.Most),(9,vi c7.1),(11,rf 4),(72,vb (decide (x17<x18)))] [cs p_c,.cells [vb false,.d dnil,vi 0,vi 0],.cells [vb c7.2.1,.d (L3 c7.2.2.1),vi c7.2.2.2.1,vi c7.2.2.2.2],.data (([]:List Int).flatMap cel3),.cells [vb x14.Is,.d (L3 x14.Best),vi x14.Range.Lo,vi x14.Range.Hi]] [PCall Try.prog 39 [(ca p_c),(L3 x14.Best)] (vi x17),PCall Try.prog 39 [(ca p_c),(L3 c7.2.2.1)] (vi x18)] (And.intro (ct39 hx17) (ct39 hx18)) ?_
       refine cd h (fun hb19 h=>?_) (fun hb19 h=>?_)
       ·refine XA [(1,.d dnil),(2,vi sheet),(3,rf 0),(6,rf 1),(7,rf 2),(8,vi x4.Most),(9,vi c7.1),(11,rf 4)] [cs p_c,.cells [vb false,.d dnil,vi 0,vi 0],.cells [vb c7.2.1,.d (L3 x14.Best),vi c7.2.2.2.1,vi c7.2.2.2.2],.data (([]:List Int).flatMap cel3),.cells [vb x14.Is,.d (L3 x14.Best),vi x14.Range.Lo,vi x14.Range.Hi]] ?_
        show awp ..
        refine XA [(1,.d dnil),(2,vi sheet),(3,rf 0),(6,rf 1),(7,rf 2),(8,vi x4.Most),(9,vi c7.1)] [cs p_c,.cells [vb false,.d dnil,vi 0,vi 0],.cells [vb c7.2.1,.d (L3 x14.Best),vi (if x14.Range.Lo<c7.2.2.2.1 then x14.Range.Lo else c7.2.2.2.1),vi (if x14.Range.Hi>c7.2.2.2.2 then x14.Range.Hi else c7.2.2.2.2)],.data (([]:List Int).flatMap cel3),.cells [vb x14.Is,.d (L3 x14.Best),vi x14.Range.Lo,vi x14.Range.Hi]] ?_
        show awp ..
        refine YA [(1,.d dnil),(2,vi sheet),(3,rf 0),(6,rf 1),(7,rf 2),(8,vi x4.Most),(9,vi (w64 (c7.1+1)))] ?_
        exact gn 3 [1,2,3,6,7,8,9] (hrn8 _ h)
       ·refine awp_skip ?_
        show awp ..
        refine XA [(1,.d dnil),(2,vi sheet),(3,rf 0),(6,rf 1),(7,rf 2),(8,vi x4.Most),(9,vi c7.1)] [cs p_c,.cells [vb false,.d dnil,vi 0,vi 0],.cells [vb c7.2.1,.d (L3 c7.2.2.1),vi (if x14.Range.Lo<c7.2.2.2.1 then x14.Range.Lo else c7.2.2.2.1),vi (if x14.Range.Hi>c7.2.2.2.2 then x14.Range.Hi else c7.2.2.2.2)],.data (([]:List Int).flatMap cel3),.cells [vb x14.Is,.d (L3 x14.Best),vi x14.Range.Lo,vi x14.Range.Hi]] ?_
        show awp ..
        refine YA [(1,.d dnil),(2,vi sheet),(3,rf 0),(6,rf 1),(7,rf 2),(8,vi x4.Most),(9,vi (w64 (c7.1+1)))] ?_
        exact gn 3 [1,2,3,6,7,8,9] (hrn8 _ h)
   ·refine awp_exit ?_
    obtain rfl:=oi h
    exact gs [0,1,2] [6,7] OutQ.norm
  ·obtain rfl:=oi h
   exact gm
  ·show awp ..
   refine GA [(6,rf 1)] [cs p_c,.cells [vb so6.1,.d (L3 so6.2.1),vi so6.2.2.1,vi so6.2.2.2],.cells [vb so6.1,.d (L3 so6.2.1),vi so6.2.2.1,vi so6.2.2.2]] ?_
   obtain rfl:=oi h
   refine WB 3 [(6,rf 1)] ?_
   exact awp_ret gm
theorem ct26 {fuel:Nat}  {p_c:S_api_EdCase} {sheet:Int} {res:S_api_Span×Int} (h:F26 fuel p_c sheet=some res):PCall Try.prog 26 [(ca p_c),(di sheet)] (.tup [.d (.agg [(di res.1.Lo),(di res.1.Hi)]),vi res.2]):=by
 refine PCall.of_awp tt_ok (N:=40) Try.func26 rfl (by kernel_rfl) rfl (Nat.le_of_ble_eq_true rfl) rfl ?_
 unfold F26 at h
 refine GA [(1,vi sheet),(2,rf 0),(4,rf 1)] [cs p_c,.cells [vi 0,vi 0]] ?_
 obtain ⟨x1,hx1,h⟩:=ob h
 refine HB [.no,.call [(ca p_c)] (.tup [vi x1.1,vi x1.2.1,vi x1.2.2])] [(1,vi sheet),(2,rf 0),(4,rf 1),(8,vi x1.2.2)] [PCall Try.prog 17 [(ca p_c)] (.tup [vi x1.1,vi x1.2.1,vi x1.2.2])] (ct17 hx1) ?_
 refine awp_seq ?_
 obtain ⟨x2,hx2,h⟩:=ob h
 refine HB [.no,.no,.no,.no,.no,.no,.no,.no,.call [(di sheet),(di 0),(di (w64 ((p_c.Sheets.length:Int)-1)))] (vb x2)] [(1,vi sheet),(2,rf 0),(4,rf 1),(8,vi x1.2.2),(26,vb (cond (x1.2.2==0) (!x2) false))] [((x1.2.2==0)=true→(x1.2.2==0)=true),((x1.2.2==0)=true→(x1.2.2==0)=true),((x1.2.2==0)=true→(x1.2.2==0)=true),((x1.2.2==0)=true→(x1.2.2==0)=true),((x1.2.2==0)=true→(x1.2.2==0)=true),((x1.2.2==0)=true→PCall Try.prog 54 [(di sheet),(di 0),(di (w64 ((p_c.Sheets.length:Int)-1)))] (vb x2)),((x1.2.2==0)=true→(x1.2.2==0)=true),((x1.2.2==0)=true→(x1.2.2==0)=true)] (And.intro (id) (And.intro (id) (And.intro (id) (And.intro (id) (And.intro (id) (And.intro ((fun hg=>ct54 (optG_of hx2 hg))) (And.intro (id) (id)))))))) ?_
 refine cuo h (fun (ro3:S_api_Span×Int)=>[(4,rf 0),(5,vi ro3.2)]) (fun (ro3:S_api_Span×Int)=>[.cells [vi ro3.1.Lo,vi ro3.1.Hi]]) (fun (so3:Int)=>[(1,vi sheet),(2,rf 0),(4,rf 1),(8,vi so3)]) (fun (so3:Int)=>[cs p_c,.cells [vi 0,vi 0]]) (fun o3 h=>?_) (fun ro3 h=>?_) (fun so3 h=>?_)
 ·refine awp_selQ (cd h (fun hb4 h=>?_) (fun hb4 h=>?_))
  ·refine XA [(1,vi sheet),(2,rf 0),(4,rf 1),(8,vi 4)] [cs p_c,.cells [vi 0,vi 0]] ?_
   obtain rfl:=oi h
   exact gs [0,1] [1,2,4,8] OutQ.norm
  ·refine awp_skip ?_
   obtain rfl:=oi h
   exact gs [0,1] [1,2,4,8] OutQ.norm
 ·obtain rfl:=oi h
  exact gm
 ·show awp ..
  refine awp_seq (GA [(1,vi sheet),(2,rf 0),(4,rf 1),(8,vi so3),(28,vb (so3 != 0))] [cs p_c,.cells [vi 0,vi 0]] ?_)
  refine cd h (fun hb5 h=>?_) (fun hb5 h=>?_)
  ·refine GA [(4,rf 1),(5,vi so3)] [cs p_c,.cells [vi 0,vi 0]] ?_
   obtain rfl:=oi h
   refine WB 2 [(4,rf 1),(5,vi so3)] ?_
   exact awp_ret gm
  ·refine awp_skip ?_
   show awp ..
   obtain ⟨x6,hx6,h⟩:=ob h
   refine GB [.no,.no,.call [(ca p_c),dnil,(di sheet)] (.d (.agg [(db x6.Is),(L3 x6.Best),(di x6.Range.Lo),(di x6.Range.Hi)]))] [(4,rf 1),(9,rf 2)] [cs p_c,.cells [vi 0,vi 0],.cells [vb x6.Is,.d (L3 x6.Best),vi x6.Range.Lo,vi x6.Range.Hi]] [PCall Try.prog 65 [(ca p_c),dnil,(di sheet)] (.d (.agg [(db x6.Is),(L3 x6.Best),(di x6.Range.Lo),(di x6.Range.Hi)]))] (ct65 hx6) ?_
   refine awp_seq (HA [(4,rf 1),(9,rf 2),(36,vb (!x6.Is))] ?_)
   refine cd h (fun hb7 h=>?_) (fun hb7 h=>?_)
   ·refine GA [(4,rf 1),(5,vi 9)] [cs p_c,.cells [vi 0,vi 0],.cells [vb x6.Is,.d (L3 x6.Best),vi x6.Range.Lo,vi x6.Range.Hi]] ?_
    obtain rfl:=oi h
    refine WB 3 [(4,rf 1),(5,vi 9)] ?_
    exact awp_ret gm
   ·refine awp_skip ?_
    show awp ..
    refine GA [(4,rf 1),(5,vi 0)] [cs p_c,.cells [vi x6.Range.Lo,vi x6.Range.Hi],.cells [vb x6.Is,.d (L3 x6.Best),vi x6.Range.Lo,vi x6.Range.Hi]] ?_
    obtain rfl:=oi h
    refine WB 3 [(4,rf 1),(5,vi 0)] ?_
    exact awp_ret gm
theorem ct28 {fuel:Nat}  {p_c:S_api_EdCase} {res:(List Int)×Int×Int} (h:F28 fuel p_c=some res):PCall Try.prog 28 [(ca p_c)] (.tup [.d (L3 res.1),vi res.2.1,vi res.2.2]):=by
 refine PCall.of_awp tt_ok (N:=29) Try.func28 rfl (by kernel_rfl) rfl (Nat.le_of_ble_eq_true rfl) rfl ?_
 unfold F28 at h
 refine GA [(1,rf 0)] [cs p_c] ?_
 obtain ⟨x1,hx1,h⟩:=ob h
 refine HB [.no,.call [(ca p_c)] (.tup [vi x1.1,vi x1.2.1,vi x1.2.2])] [(1,rf 0),(7,vi x1.2.2)] [PCall Try.prog 17 [(ca p_c)] (.tup [vi x1.1,vi x1.2.1,vi x1.2.2])] (ct17 hx1) ?_
 refine awp_seq (HA [(1,rf 0),(7,vi x1.2.2),(16,vb (x1.2.2 != 0))] ?_)
 refine cd h (fun hb2 h=>?_) (fun hb2 h=>?_)
 ·refine GA [(2,.d dnil),(3,vi 0),(4,vi x1.2.2)] [cs p_c] ?_
  obtain rfl:=oi h
  refine WB 1 [(2,.d dnil),(3,vi 0),(4,vi x1.2.2)] ?_
  refine awp_laxT 2 _ (L3 ([]:List Int)) _ (by kernel_rfl) (.nil (e:=1)) rfl ?_
  refine WA 1 [(2,.d (L3 ([]:List Int))),(3,vi 0),(4,vi x1.2.2)] [cs p_c] ?_
  exact awp_ret gm
 ·refine awp_skip ?_
  show awp ..
  obtain ⟨x3,hx3,h⟩:=ob h
  refine GB [.no,.call [(ca p_c),dnil,(di 0)] (.d (.agg [(db x3.Is),(L3 x3.Best),(di x3.Range.Lo),(di x3.Range.Hi)]))] [(1,rf 0),(8,rf 1)] [cs p_c,.cells [vb x3.Is,.d (L3 x3.Best),vi x3.Range.Lo,vi x3.Range.Hi]] [PCall Try.prog 65 [(ca p_c),dnil,(di 0)] (.d (.agg [(db x3.Is),(L3 x3.Best),(di x3.Range.Lo),(di x3.Range.Hi)]))] (ct65 hx3) ?_
  refine awp_seq (HA [(1,rf 0),(8,rf 1),(22,vb (!x3.Is))] ?_)
  refine cd h (fun hb4 h=>?_) (fun hb4 h=>?_)
  ·refine GA [(2,.d dnil),(3,vi 0),(4,vi 9)] [cs p_c,.cells [vb x3.Is,.d (L3 x3.Best),vi x3.Range.Lo,vi x3.Range.Hi]] ?_
   obtain rfl:=oi h
   refine WB 2 [(2,.d dnil),(3,vi 0),(4,vi 9)] ?_
   refine awp_laxT 2 _ (L3 ([]:List Int)) _ (by kernel_rfl) (.nil (e:=1)) rfl ?_
   refine WA 2 [(2,.d (L3 ([]:List Int))),(3,vi 0),(4,vi 9)] [cs p_c,.cells [vb x3.Is,.d (L3 x3.Best),vi x3.Range.Lo,vi x3.Range.Hi]] ?_
   exact awp_ret gm
  ·refine awp_skip ?_
   show awp ..
   obtain ⟨x5,hx5,h⟩:=ob h
   refine sd [2,3,4] [.no,.no,.no,.no,.no,.call [(ca p_c),(L3 x3.Best)] (vi x5)] 6 [2,3,4,24,28] [(2,.d (L3 x3.Best)),(3,vi x5),(4,vi 0)] [cs p_c,.cells [vb x3.Is,.d (L3 x3.Best),vi x3.Range.Lo,vi x3.Range.Hi]] [PCall Try.prog 39 [(ca p_c),(L3 x3.Best)] (vi x5)] (ct39 hx5) ?_
   obtain rfl:=oi h
   refine WB 2 [(2,.d (L3 x3.Best)),(3,vi x5),(4,vi 0)] ?_
   exact awp_ret gm
end Go.Proofs.Ytallnifoeahpiaa
