/- What functions of the seat compute, and that they do. Printed by a program of mine. -/
import Derived.Test.YtadejgckgnbaoaaSxPost
import Derived.Test.YtadejgckgnbaoaaTab
namespace Go.Proofs.Ytadejgckgnbaoaa
open Go Go.Sx
set_option linter.unusedVariables false

structure S_api_CvPoint where
  Board : Int
  Lo : Int
  Hi : Int
  deriving Inhabited
structure S_api_CvRow where
  Steep : Int
  Points : (List S_api_CvPoint)
  deriving Inhabited
structure S_api_Span where
  Lo : Int
  Hi : Int
  deriving Inhabited
structure S_api_CvPass where
  From : Int
  To : Int
  deriving Inhabited
structure S_carve_row where
  CvRow : S_api_CvRow
  deriving Inhabited
structure S_carve_state where
  at_ : Int
  high : Int
  deriving Inhabited
structure S_carve_needs where
  e0 : Int
  e1 : Int
  deriving Inhabited
structure S_carve_rest where
  needs : S_carve_needs
  next : Int
  deriving Inhabited
def cel3 (x : Int) : List D := [(di x)]
theorem cel3_len (x : Int) : (cel3 x).length = 1 := rfl
abbrev L3 (x : List Int) : D := .list false 1 x.length (x.flatMap cel3)
abbrev LT3 (x : List Int) : D := .list true 1 x.length (x.flatMap cel3)
abbrev IX3 (x : List Int) (i : Int) (y : Int) : Prop := IdxOk (x.flatMap cel3) 1 x.length i (cel3 y)
def cel56 (x : S_api_Span) : List D := [(di x.Lo), (di x.Hi)]
theorem cel56_len (x : S_api_Span) : (cel56 x).length = 2 := rfl
abbrev L56 (x : List S_api_Span) : D := .list false 2 x.length (x.flatMap cel56)
abbrev LT56 (x : List S_api_Span) : D := .list true 2 x.length (x.flatMap cel56)
abbrev IX56 (x : List S_api_Span) (i : Int) (y : S_api_Span) : Prop := IdxOk (x.flatMap cel56) 2 x.length i (cel56 y)
def cel58 (x : S_api_CvPoint) : List D := [(di x.Board), (di x.Lo), (di x.Hi)]
theorem cel58_len (x : S_api_CvPoint) : (cel58 x).length = 3 := rfl
abbrev L58 (x : List S_api_CvPoint) : D := .list false 3 x.length (x.flatMap cel58)
abbrev LT58 (x : List S_api_CvPoint) : D := .list true 3 x.length (x.flatMap cel58)
abbrev IX58 (x : List S_api_CvPoint) (i : Int) (y : S_api_CvPoint) : Prop := IdxOk (x.flatMap cel58) 3 x.length i (cel58 y)
def cel84 (x : S_api_CvPass) : List D := [(di x.From), (di x.To)]
theorem cel84_len (x : S_api_CvPass) : (cel84 x).length = 2 := rfl
abbrev L84 (x : List S_api_CvPass) : D := .list false 2 x.length (x.flatMap cel84)
abbrev LT84 (x : List S_api_CvPass) : D := .list true 2 x.length (x.flatMap cel84)
abbrev IX84 (x : List S_api_CvPass) (i : Int) (y : S_api_CvPass) : Prop := IdxOk (x.flatMap cel84) 2 x.length i (cel84 y)
def dat95 (x : S_carve_state) : D := (.agg [(di x.at_), (di x.high)])
def dat99 (x : S_carve_rest) : D := (.agg [(di x.needs.e0), (di x.needs.e1), (di x.next)])
def mpo95x99 (m : List (S_carve_state × S_carve_rest)) : List (D × D) := m.map fun q => (dat95 q.1, dat99 q.2)
def eqk95 (a b : S_carve_state) : Bool := ((a.at_ == b.at_) && (a.high == b.high))
theorem eqk95_ok (a b : S_carve_state) : eqD (dat95 a) (dat95 b) = some (eqk95 a b) := rfl
noncomputable def asn51x0 : Go.Code := Go.Sx.bodyAt Try.f51 [1, 1, 1, 0, 1, 0, 0]
noncomputable def bdy51x0 : Go.Code := Go.Sx.bodyAt Try.f51 [1, 1, 1, 0, 1, 0, 1]

-- hachure/hachurelaw04.Row P
def F38  (steep : Int) : Option (S_api_CvRow) :=
  some (⟨steep, ([(⟨10, 4, 8⟩ : S_api_CvPoint), (⟨10, 9, 12⟩ : S_api_CvPoint), (⟨6, 7, 9⟩ : S_api_CvPoint), (⟨12, 3, 6⟩ : S_api_CvPoint)] : List S_api_CvPoint)⟩ : S_api_CvRow)

set_option maxRecDepth 100000 in
theorem ct38  {steep : Int} {res : S_api_CvRow} (h : F38 steep = some res) : PCall Try.prog 38 [(di steep)] (.d (.agg [(di res.Steep), (L58 res.Points)])) := by
  refine PCall.of_awp tt_ok (N := 10) Try.func38 rfl (by kernel_rfl) rfl (Nat.le_of_ble_eq_true rfl) rfl ?_
  unfold F38 at h
  refine awp_sreg tt_ok (ks := [0, 2]) (hs := []) [(0, vi steep), (2, .ref 0 0)] [.cells [vi 0, .d dnil]] [] (by kernel_rfl) trivial ?_
  refine awp_sreg tt_ok (ks := [2]) (hs := []) [(2, .ref 0 0)] [.cells [vi steep, .d (L58 ([(⟨10, 4, 8⟩ : S_api_CvPoint), (⟨10, 9, 12⟩ : S_api_CvPoint), (⟨6, 7, 9⟩ : S_api_CvPoint), (⟨12, 3, 6⟩ : S_api_CvPoint)] : List S_api_CvPoint))]] [] (by kernel_rfl) trivial ?_
  obtain rfl := Option.some.inj h
  refine awp_wk 1 [2] (by kernel_rfl) [(2, .ref 0 0)] [.cells [vi steep, .d (L58 ([(⟨10, 4, 8⟩ : S_api_CvPoint), (⟨10, 9, 12⟩ : S_api_CvPoint), (⟨6, 7, 9⟩ : S_api_CvPoint), (⟨12, 3, 6⟩ : S_api_CvPoint)] : List S_api_CvPoint))]] (by kernel_rfl) (by kernel_rfl) ?_
  exact awp_ret (main_ret (by kernel_rfl))

-- hachure/carve.out.1 H
def F73  (p_n : Int) (b0x0 : Int) (b1x0 : Int) : Option (Bool) :=
  some (cond (decide (p_n < b0x0)) true (decide (p_n > b1x0)))

set_option maxRecDepth 100000 in
theorem ct73  {p_n : Int} {b0x0 : Int} {b1x0 : Int} {res : Bool} (h : F73 p_n b0x0 b1x0 = some res) : HCall Try.prog 73 [vi p_n, .ref 0 0, .ref 1 0] [.cells [vi b0x0], .cells [vi b1x0]] (vb res) [.cells [vi b0x0], .cells [vi b1x0]] := by
  refine HCall.of_awpS tt_ok (N := 13) (fl := 2) Try.func73 rfl (by kernel_rfl) rfl rfl (Nat.le_of_ble_eq_true rfl) ?_
  unfold F73 at h
  refine awp_sreg tt_ok (ks := [0, 1, 2]) (hs := []) [(0, vi p_n), (1, .ref 0 0), (2, .ref 1 0)] [.cells [vi b0x0], .cells [vi b1x0]] [] (by kernel_rfl) trivial ?_
  refine awp_sreg tt_ok (ks := [4]) (hs := []) [(4, vb (cond (decide (p_n < b0x0)) true (decide (p_n > b1x0))))] [.cells [vi b0x0], .cells [vi b1x0]] [((!(decide (p_n < b0x0))) = true → (!(decide (p_n < b0x0))) = true), ((!(decide (p_n < b0x0))) = true → (!(decide (p_n < b0x0))) = true), ((decide (p_n < b0x0)) = false → (!(decide (p_n < b0x0))) = true)] (by kernel_rfl) (And.intro (id) (And.intro (id) (not_of))) ?_
  obtain rfl := Option.some.inj h
  refine awp_wk 2 [4] (by kernel_rfl) [(4, vb (cond (decide (p_n < b0x0)) true (decide (p_n > b1x0))))] [.cells [vi b0x0], .cells [vi b1x0]] (by kernel_rfl) (by kernel_rfl) ?_
  exact awp_ret (main_retS [0, 1] (vb (cond (decide (p_n < b0x0)) true (decide (p_n > b1x0)))) (by kernel_rfl) (by kernel_rfl) (by kernel_rfl) (by kernel_rfl))

-- slices.IndexFunc...int.int. H
def F79L1 (p_s : (List Int)) (b0x0 : Int) (b1x0 : Int) : Nat → Int → Option ((Int) ⊕ (Unit))
  | 0, _ => none
  | n3 + 1, c2 => if (decide (c2 < (p_s.length : Int))) then ((idx p_s c2).bind fun x5 => (F73 x5 b0x0 b1x0).bind fun x6 => if x6 then (some (.inl c2)) else (F79L1 p_s b0x0 b1x0 n3 (w64 (c2 + 1)))) else (some (.inr ()))

def F79 (fuel : Nat)  (p_s : (List Int)) (b0x0 : Int) (b1x0 : Int) : Option (Int) :=
  (F79L1 p_s b0x0 b1x0 fuel 0).bind fun o1 => outK o1 (fun (ro1 : Int) => some ro1) (fun (so1 : Unit) => some (-1))

set_option maxRecDepth 100000 in
theorem ct79 {fuel : Nat}  {p_s : (List Int)} {b0x0 : Int} {b1x0 : Int} {res : Int} (h : F79 fuel p_s b0x0 b1x0 = some res) : HCall Try.prog 79 [.d (L3 p_s), .fn (.func 73) [] [.ref 0 0, .ref 1 0]] [.cells [vi b0x0], .cells [vi b1x0]] (vi res) [.cells [vi b0x0], .cells [vi b1x0]] := by
  refine HCall.of_awpS tt_ok (N := 19) (fl := 2) Try.func79 rfl (by kernel_rfl) rfl rfl (Nat.le_of_ble_eq_true rfl) ?_
  unfold F79 at h
  refine awp_sreg tt_ok (ks := [0, 1]) (hs := []) [(0, .d (L3 p_s)), (1, .fn (.func 73) [] [.ref 0 0, .ref 1 0])] [.cells [vi b0x0], .cells [vi b1x0]] [] (by kernel_rfl) trivial ?_
  refine awp_seq ?_
  refine awp_sreg tt_ok (ks := [0, 1, 7, 8]) (hs := []) [(0, .d (L3 p_s)), (1, .fn (.func 73) [] [.ref 0 0, .ref 1 0]), (7, vi (p_s.length : Int)), (8, vi 0)] [.cells [vi b0x0], .cells [vi b1x0]] [] (by kernel_rfl) trivial ?_
  obtain ⟨o1, ho1, h⟩ := Option.bind_eq_some_iff.1 h
  refine awp_cut1 (OutQ (fun (ro1 : Int) => [(4, vi ro1)]) (fun (ro1 : Int) => [.cells [vi b0x0], .cells [vi b1x0]]) (fun (so1 : Unit) => []) (fun (so1 : Unit) => [.cells [vi b0x0], .cells [vi b1x0]]) o1) ?_ ?_
  · clear h
    have h := ho1
    clear ho1
    refine awp_selQ ?_
    refine awp_wk 2 [0, 1, 7, 8] (by kernel_rfl) [(0, .d (L3 p_s)), (1, .fn (.func 73) [] [.ref 0 0, .ref 1 0]), (7, vi (p_s.length : Int)), (8, vi 0)] [.cells [vi b0x0], .cells [vi b1x0]] (by kernel_rfl) (by kernel_rfl) ?_
    refine awp_block ?_
    refine awp_loop (n := fuel) ?_
    refine awpN_ind (fun n (c2 : Int) => F79L1 p_s b0x0 b1x0 n c2) o1 (fun (c2 : Int) => [(0, .d (L3 p_s)), (1, .fn (.func 73) [] [.ref 0 0, .ref 1 0]), (7, vi (p_s.length : Int)), (8, vi c2)]) (fun (c2 : Int) => [.cells [vi b0x0], .cells [vi b1x0]]) (fun _ => rfl) ?_ fuel 0 h
    clear h
    intro n3 c2 h hrn3
    change F79L1 p_s b0x0 b1x0 (n3 + 1) c2 = some o1 at h
    rw [F79L1] at h
    refine awp_sreg tt_ok (ks := [0, 1, 7, 8, 9]) (hs := []) [(0, .d (L3 p_s)), (1, .fn (.func 73) [] [.ref 0 0, .ref 1 0]), (7, vi (p_s.length : Int)), (8, vi c2), (9, vb (decide (c2 < (p_s.length : Int))))] [.cells [vi b0x0], .cells [vi b1x0]] [] (by kernel_rfl) trivial ?_
    refine awp_seq ?_
    refine awp_cond (b := (decide (c2 < (p_s.length : Int)))) (by kernel_rfl) (fun hb4 => ?_) (fun hb4 => ?_)
    · rw [if_pos hb4] at h
      refine awp_skip ?_
      show awp _ _ _ _ _ _ _ _
      refine awp_seq ?_
      refine awp_block ?_
      refine awp_sreg tt_ok (ks := [0, 1, 5, 7, 8]) (hs := []) [(0, .d (L3 p_s)), (1, .fn (.func 73) [] [.ref 0 0, .ref 1 0]), (5, vi c2), (7, vi (p_s.length : Int)), (8, vi c2)] [.cells [vi b0x0], .cells [vi b1x0]] [] (by kernel_rfl) trivial ?_
      obtain ⟨x5, hx5, h⟩ := Option.bind_eq_some_iff.1 h
      obtain ⟨x6, hx6, h⟩ := Option.bind_eq_some_iff.1 h
      refine awp_sreg tt_ok (ks := [0, 1, 5, 7, 8, 16]) (hs := [.no, .no, .no, .cells (cel3 x5), .no, .hcall [(0, false), (1, false)] (vb x6) [.cells [vi b0x0], .cells [vi b1x0]]]) [(0, .d (L3 p_s)), (1, .fn (.func 73) [] [.ref 0 0, .ref 1 0]), (5, vi c2), (7, vi (p_s.length : Int)), (8, vi c2), (16, vb x6)] [.cells [vi b0x0], .cells [vi b1x0]] [IX3 p_s c2 x5, HCall Try.prog 73 [vi x5, .ref 0 0, .ref 1 0] [.cells [vi b0x0], .cells [vi b1x0]] (vb x6) [.cells [vi b0x0], .cells [vi b1x0]]] (by kernel_rfl) (And.intro (idxOk cel3_len hx5) (ct73 hx6)) ?_
      refine awp_cond (b := x6) (by kernel_rfl) (fun hb7 => ?_) (fun hb7 => ?_)
      · rw [if_pos hb7] at h
        refine awp_sreg tt_ok (ks := [4]) (hs := []) [(4, vi c2)] [.cells [vi b0x0], .cells [vi b1x0]] [] (by kernel_rfl) trivial ?_
        obtain rfl := Option.some.inj h
        refine awp_wk 2 [4] (by kernel_rfl) [(4, vi c2)] [.cells [vi b0x0], .cells [vi b1x0]] (by kernel_rfl) (by kernel_rfl) ?_
        exact awp_ret (Sel.mk [0, 1] [4] (by kernel_rfl) (by kernel_rfl) (by kernel_rfl) OutQ.ret)
      · rw [if_neg (ntrue hb7)] at h
        refine awp_skip ?_
        show awp _ _ _ _ _ _ _ _
        refine awp_region (T' := [(0, .d (L3 p_s)), (1, .fn (.func 73) [] [.ref 0 0, .ref 1 0]), (7, vi (p_s.length : Int)), (8, vi (w64 (c2 + 1)))]) (H' := [.cells [vi b0x0], .cells [vi b1x0]]) (ps := []) tt_ok (ks := [0, 1, 7, 8]) (hs := []) (by kernel_rfl) trivial ?_
        exact awpN_wk 2 [0, 1, 7, 8] (by kernel_rfl) _ _ (by kernel_rfl) (by kernel_rfl) (hrn3 (w64 (c2 + 1)) h)
    · rw [if_neg (ntrue hb4)] at h
      refine awp_exit ?_
      obtain rfl := Option.some.inj h
      exact Sel.mk [0, 1] [] (by kernel_rfl) (by kernel_rfl) (by kernel_rfl) OutQ.norm
  · intro e T H hq
    cases o1 with
    | inl ro1 =>
      obtain ⟨rfl, rfl, rfl⟩ := hq
      rw [outK_inl] at h
      obtain rfl := Option.some.inj h
      exact (main_retS [0, 1] (vi ro1) (by kernel_rfl) (by kernel_rfl) (by kernel_rfl) (by kernel_rfl))
    | inr so1 =>
      obtain ⟨rfl, rfl, rfl⟩ := hq
      rw [outK_inr] at h
      show awp _ _ _ _ _ _ _ _
      refine awp_sreg tt_ok (ks := [4]) (hs := []) [(4, vi (-1))] [.cells [vi b0x0], .cells [vi b1x0]] [] (by kernel_rfl) trivial ?_
      obtain rfl := Option.some.inj h
      refine awp_wk 2 [4] (by kernel_rfl) [(4, vi (-1))] [.cells [vi b0x0], .cells [vi b1x0]] (by kernel_rfl) (by kernel_rfl) ?_
      exact awp_ret (main_retS [0, 1] (vi (-1)) (by kernel_rfl) (by kernel_rfl) (by kernel_rfl) (by kernel_rfl))

-- slices.ContainsFunc...int.int. H
def F72 (fuel : Nat)  (p_s : (List Int)) (b0x0 : Int) (b1x0 : Int) : Option (Bool) :=
  (F79 fuel p_s b0x0 b1x0).bind fun x1 => some (decide (x1 ≥ 0))

set_option maxRecDepth 100000 in
theorem ct72 {fuel : Nat}  {p_s : (List Int)} {b0x0 : Int} {b1x0 : Int} {res : Bool} (h : F72 fuel p_s b0x0 b1x0 = some res) : HCall Try.prog 72 [.d (L3 p_s), .fn (.func 73) [] [.ref 0 0, .ref 1 0]] [.cells [vi b0x0], .cells [vi b1x0]] (vb res) [.cells [vi b0x0], .cells [vi b1x0]] := by
  refine HCall.of_awpS tt_ok (N := 9) (fl := 2) Try.func72 rfl (by kernel_rfl) rfl rfl (Nat.le_of_ble_eq_true rfl) ?_
  unfold F72 at h
  refine awp_sreg tt_ok (ks := [0, 1]) (hs := []) [(0, .d (L3 p_s)), (1, .fn (.func 73) [] [.ref 0 0, .ref 1 0])] [.cells [vi b0x0], .cells [vi b1x0]] [] (by kernel_rfl) trivial ?_
  obtain ⟨x1, hx1, h⟩ := Option.bind_eq_some_iff.1 h
  refine awp_sreg tt_ok (ks := [4]) (hs := [.no, .no, .hcall [(0, false), (1, false)] (vi x1) [.cells [vi b0x0], .cells [vi b1x0]]]) [(4, vb (decide (x1 ≥ 0)))] [.cells [vi b0x0], .cells [vi b1x0]] [HCall Try.prog 79 [.d (L3 p_s), .fn (.func 73) [] [.ref 0 0, .ref 1 0]] [.cells [vi b0x0], .cells [vi b1x0]] (vi x1) [.cells [vi b0x0], .cells [vi b1x0]]] (by kernel_rfl) (ct79 hx1) ?_
  obtain rfl := Option.some.inj h
  refine awp_wk 2 [4] (by kernel_rfl) [(4, vb (decide (x1 ≥ 0)))] [.cells [vi b0x0], .cells [vi b1x0]] (by kernel_rfl) (by kernel_rfl) ?_
  exact awp_ret (main_retS [0, 1] (vb (decide (x1 ≥ 0))) (by kernel_rfl) (by kernel_rfl) (by kernel_rfl) (by kernel_rfl))

-- hachure/carve.out P
def F49 (fuel : Nat)  (lo : Int) (hi : Int) (numbers : (List Int)) : Option (Bool) :=
  (F72 fuel numbers lo hi).bind fun x1 => some x1

set_option maxRecDepth 100000 in
theorem ct49 {fuel : Nat}  {lo : Int} {hi : Int} {numbers : (List Int)} {res : Bool} (h : F49 fuel lo hi numbers = some res) : PCall Try.prog 49 [(di lo), (di hi), (L3 numbers)] (vb res) := by
  refine PCall.of_awp tt_ok (N := 10) Try.func49 rfl (by kernel_rfl) rfl (Nat.le_of_ble_eq_true rfl) rfl ?_
  unfold F49 at h
  refine awp_sreg tt_ok (ks := [2, 3, 4]) (hs := []) [(2, .d (L3 numbers)), (3, .ref 0 0), (4, .ref 1 0)] [.cells [vi lo], .cells [vi hi]] [] (by kernel_rfl) trivial ?_
  obtain ⟨x1, hx1, h⟩ := Option.bind_eq_some_iff.1 h
  refine awp_sreg tt_ok (ks := [6]) (hs := [.no, .no, .hcall [(0, false), (1, false)] (vb x1) [.cells [vi lo], .cells [vi hi]]]) [(6, vb x1)] [.cells [vi lo], .cells [vi hi]] [HCall Try.prog 72 [.d (L3 numbers), .fn (.func 73) [] [.ref 0 0, .ref 1 0]] [.cells [vi lo], .cells [vi hi]] (vb x1) [.cells [vi lo], .cells [vi hi]]] (by kernel_rfl) (ct72 hx1) ?_
  obtain rfl := Option.some.inj h
  refine awp_wk 2 [6] (by kernel_rfl) [(6, vb x1)] [.cells [vi lo], .cells [vi hi]] (by kernel_rfl) (by kernel_rfl) ?_
  exact awp_ret (main_ret (by kernel_rfl))

-- hachure/carve.Check P
def F16L1 (fuel : Nat) (p_r : S_api_CvRow) : Nat → Int → Option ((Int × Int × Int) ⊕ (Unit))
  | 0, _ => none
  | n7 + 1, c6 => if (decide (c6 < (p_r.Points.length : Int))) then ((idx p_r.Points c6).bind fun x9 => (F49 fuel 0 9000 ([x9.Board, x9.Lo, x9.Hi] : List Int)).bind fun x10 => if x10 then (some (.inl (2, c6, 7))) else ((F49 fuel x9.Lo (w64 (x9.Lo + 30)) ([x9.Hi] : List Int)).bind fun x12 => if x12 then (some (.inl (2, c6, 2))) else (F16L1 fuel p_r n7 (w64 (c6 + 1))))) else (some (.inr ()))

def F16 (fuel : Nat)  (p_r : S_api_CvRow) : Option (Int × Int × Int) :=
  (F49 fuel 0 200 ([p_r.Steep] : List Int)).bind fun x1 => if x1 then (some (1, 0, 7)) else ((F49 fuel 1 10 ([(p_r.Points.length : Int)] : List Int)).bind fun x3 => if x3 then (some (1, 0, 3)) else ((F16L1 fuel p_r fuel 0).bind fun o5 => outK o5 (fun (ro5 : Int × Int × Int) => some ro5) (fun (so5 : Unit) => some (0, 0, 0))))

set_option maxRecDepth 100000 in
theorem ct16 {fuel : Nat}  {p_r : S_api_CvRow} {res : Int × Int × Int} (h : F16 fuel p_r = some res) : PCall Try.prog 16 [(.agg [(di p_r.Steep), (L58 p_r.Points)])] (.tup [vi res.1, vi res.2.1, vi res.2.2]) := by
  refine PCall.of_awp tt_ok (N := 48) Try.func16 rfl (by kernel_rfl) rfl (Nat.le_of_ble_eq_true rfl) rfl ?_
  unfold F16 at h
  refine awp_sreg tt_ok (ks := [1]) (hs := []) [(1, .ref 0 0)] [.cells [vi p_r.Steep, .d (L58 p_r.Points)]] [] (by kernel_rfl) trivial ?_
  refine awp_seq ?_
  refine awp_block ?_
  obtain ⟨x1, hx1, h⟩ := Option.bind_eq_some_iff.1 h
  refine awp_sreg tt_ok (ks := [1, 7]) (hs := [.no, .no, .no, .call [(di 0), (di 200), (L3 ([p_r.Steep] : List Int))] (vb x1)]) [(1, .ref 0 0), (7, vb x1)] [.cells [vi p_r.Steep, .d (L58 p_r.Points)]] [PCall Try.prog 49 [(di 0), (di 200), (L3 ([p_r.Steep] : List Int))] (vb x1)] (by kernel_rfl) (ct49 hx1) ?_
  refine awp_cond (b := x1) (by kernel_rfl) (fun hb2 => ?_) (fun hb2 => ?_)
  · rw [if_pos hb2] at h
    refine awp_sreg tt_ok (ks := [2, 3, 4]) (hs := []) [(2, vi 1), (3, vi 0), (4, vi 7)] [.cells [vi p_r.Steep, .d (L58 p_r.Points)]] [] (by kernel_rfl) trivial ?_
    obtain rfl := Option.some.inj h
    refine awp_wk 1 [2, 3, 4] (by kernel_rfl) [(2, vi 1), (3, vi 0), (4, vi 7)] [.cells [vi p_r.Steep, .d (L58 p_r.Points)]] (by kernel_rfl) (by kernel_rfl) ?_
    exact awp_ret (main_ret (by kernel_rfl))
  · rw [if_neg (ntrue hb2)] at h
    obtain ⟨x3, hx3, h⟩ := Option.bind_eq_some_iff.1 h
    refine awp_sreg tt_ok (ks := [1, 12]) (hs := [.no, .no, .no, .no, .call [(di 1), (di 10), (L3 ([(p_r.Points.length : Int)] : List Int))] (vb x3)]) [(1, .ref 0 0), (12, vb x3)] [.cells [vi p_r.Steep, .d (L58 p_r.Points)]] [PCall Try.prog 49 [(di 1), (di 10), (L3 ([(p_r.Points.length : Int)] : List Int))] (vb x3)] (by kernel_rfl) (ct49 hx3) ?_
    refine awp_cond (b := x3) (by kernel_rfl) (fun hb4 => ?_) (fun hb4 => ?_)
    · rw [if_pos hb4] at h
      refine awp_sreg tt_ok (ks := [2, 3, 4]) (hs := []) [(2, vi 1), (3, vi 0), (4, vi 3)] [.cells [vi p_r.Steep, .d (L58 p_r.Points)]] [] (by kernel_rfl) trivial ?_
      obtain rfl := Option.some.inj h
      refine awp_wk 1 [2, 3, 4] (by kernel_rfl) [(2, vi 1), (3, vi 0), (4, vi 3)] [.cells [vi p_r.Steep, .d (L58 p_r.Points)]] (by kernel_rfl) (by kernel_rfl) ?_
      exact awp_ret (main_ret (by kernel_rfl))
    · rw [if_neg (ntrue hb4)] at h
      refine awp_skip ?_
      show awp _ _ _ _ _ _ _ _
      refine awp_seq ?_
      refine awp_sreg tt_ok (ks := [19, 20, 21]) (hs := []) [(19, .d (L58 p_r.Points)), (20, vi (p_r.Points.length : Int)), (21, vi 0)] [.cells [vi p_r.Steep, .d (L58 p_r.Points)]] [] (by kernel_rfl) trivial ?_
      obtain ⟨o5, ho5, h⟩ := Option.bind_eq_some_iff.1 h
      refine awp_cut1 (OutQ (fun (ro5 : Int × Int × Int) => [(2, vi ro5.1), (3, vi ro5.2.1), (4, vi ro5.2.2)]) (fun (ro5 : Int × Int × Int) => []) (fun (so5 : Unit) => []) (fun (so5 : Unit) => [.cells [vi p_r.Steep, .d (L58 p_r.Points)]]) o5) ?_ ?_
      · clear h
        have h := ho5
        clear ho5
        refine awp_selQ ?_
        refine awp_wk 1 [19, 20, 21] (by kernel_rfl) [(19, .d (L58 p_r.Points)), (20, vi (p_r.Points.length : Int)), (21, vi 0)] [.cells [vi p_r.Steep, .d (L58 p_r.Points)]] (by kernel_rfl) (by kernel_rfl) ?_
        refine awp_block ?_
        refine awp_loop (n := fuel) ?_
        refine awpN_ind (fun n (c6 : Int) => F16L1 fuel p_r n c6) o5 (fun (c6 : Int) => [(19, .d (L58 p_r.Points)), (20, vi (p_r.Points.length : Int)), (21, vi c6)]) (fun (c6 : Int) => [.cells [vi p_r.Steep, .d (L58 p_r.Points)]]) (fun _ => rfl) ?_ fuel 0 h
        clear h
        intro n7 c6 h hrn7
        change F16L1 fuel p_r (n7 + 1) c6 = some o5 at h
        rw [F16L1] at h
        refine awp_sreg tt_ok (ks := [19, 20, 21, 22]) (hs := []) [(19, .d (L58 p_r.Points)), (20, vi (p_r.Points.length : Int)), (21, vi c6), (22, vb (decide (c6 < (p_r.Points.length : Int))))] [.cells [vi p_r.Steep, .d (L58 p_r.Points)]] [] (by kernel_rfl) trivial ?_
        refine awp_seq ?_
        refine awp_cond (b := (decide (c6 < (p_r.Points.length : Int)))) (by kernel_rfl) (fun hb8 => ?_) (fun hb8 => ?_)
        · rw [if_pos hb8] at h
          refine awp_skip ?_
          show awp _ _ _ _ _ _ _ _
          refine awp_seq ?_
          refine awp_block ?_
          obtain ⟨x9, hx9, h⟩ := Option.bind_eq_some_iff.1 h
          refine awp_sreg tt_ok (ks := [5, 6, 19, 20, 21]) (hs := [.no, .cells (cel58 x9)]) [(5, vi c6), (6, .ref 1 0), (19, .d (L58 p_r.Points)), (20, vi (p_r.Points.length : Int)), (21, vi c6)] [.cells [vi p_r.Steep, .d (L58 p_r.Points)], .cells [vi x9.Board, vi x9.Lo, vi x9.Hi]] [IX58 p_r.Points c6 x9] (by kernel_rfl) (idxOk cel58_len hx9) ?_
          refine awp_block ?_
          obtain ⟨x10, hx10, h⟩ := Option.bind_eq_some_iff.1 h
          refine awp_sreg tt_ok (ks := [5, 6, 19, 20, 21, 26]) (hs := [.no, .no, .no, .no, .no, .no, .no, .call [(di 0), (di 9000), (L3 ([x9.Board, x9.Lo, x9.Hi] : List Int))] (vb x10)]) [(5, vi c6), (6, .ref 1 0), (19, .d (L58 p_r.Points)), (20, vi (p_r.Points.length : Int)), (21, vi c6), (26, vb x10)] [.cells [vi p_r.Steep, .d (L58 p_r.Points)], .cells [vi x9.Board, vi x9.Lo, vi x9.Hi]] [PCall Try.prog 49 [(di 0), (di 9000), (L3 ([x9.Board, x9.Lo, x9.Hi] : List Int))] (vb x10)] (by kernel_rfl) (ct49 hx10) ?_
          refine awp_cond (b := x10) (by kernel_rfl) (fun hb11 => ?_) (fun hb11 => ?_)
          · rw [if_pos hb11] at h
            refine awp_sreg tt_ok (ks := [2, 3, 4]) (hs := []) [(2, vi 2), (3, vi c6), (4, vi 7)] [.cells [vi p_r.Steep, .d (L58 p_r.Points)], .cells [vi x9.Board, vi x9.Lo, vi x9.Hi]] [] (by kernel_rfl) trivial ?_
            obtain rfl := Option.some.inj h
            refine awp_wk 2 [2, 3, 4] (by kernel_rfl) [(2, vi 2), (3, vi c6), (4, vi 7)] [.cells [vi p_r.Steep, .d (L58 p_r.Points)], .cells [vi x9.Board, vi x9.Lo, vi x9.Hi]] (by kernel_rfl) (by kernel_rfl) ?_
            exact awp_ret (Sel.mk [] [2, 3, 4] (by kernel_rfl) (by kernel_rfl) (by kernel_rfl) OutQ.ret)
          · rw [if_neg (ntrue hb11)] at h
            obtain ⟨x12, hx12, h⟩ := Option.bind_eq_some_iff.1 h
            refine awp_sreg tt_ok (ks := [5, 19, 20, 21, 36]) (hs := [.no, .no, .no, .no, .no, .no, .no, .no, .call [(di x9.Lo), (di (w64 (x9.Lo + 30))), (L3 ([x9.Hi] : List Int))] (vb x12)]) [(5, vi c6), (19, .d (L58 p_r.Points)), (20, vi (p_r.Points.length : Int)), (21, vi c6), (36, vb x12)] [.cells [vi p_r.Steep, .d (L58 p_r.Points)], .cells [vi x9.Board, vi x9.Lo, vi x9.Hi]] [PCall Try.prog 49 [(di x9.Lo), (di (w64 (x9.Lo + 30))), (L3 ([x9.Hi] : List Int))] (vb x12)] (by kernel_rfl) (ct49 hx12) ?_
            refine awp_cond (b := x12) (by kernel_rfl) (fun hb13 => ?_) (fun hb13 => ?_)
            · rw [if_pos hb13] at h
              refine awp_sreg tt_ok (ks := [2, 3, 4]) (hs := []) [(2, vi 2), (3, vi c6), (4, vi 2)] [.cells [vi p_r.Steep, .d (L58 p_r.Points)], .cells [vi x9.Board, vi x9.Lo, vi x9.Hi]] [] (by kernel_rfl) trivial ?_
              obtain rfl := Option.some.inj h
              refine awp_wk 2 [2, 3, 4] (by kernel_rfl) [(2, vi 2), (3, vi c6), (4, vi 2)] [.cells [vi p_r.Steep, .d (L58 p_r.Points)], .cells [vi x9.Board, vi x9.Lo, vi x9.Hi]] (by kernel_rfl) (by kernel_rfl) ?_
              exact awp_ret (Sel.mk [] [2, 3, 4] (by kernel_rfl) (by kernel_rfl) (by kernel_rfl) OutQ.ret)
            · rw [if_neg (ntrue hb13)] at h
              refine awp_skip ?_
              show awp _ _ _ _ _ _ _ _
              refine awp_region (T' := [(19, .d (L58 p_r.Points)), (20, vi (p_r.Points.length : Int)), (21, vi (w64 (c6 + 1)))]) (H' := [.cells [vi p_r.Steep, .d (L58 p_r.Points)], .cells [vi x9.Board, vi x9.Lo, vi x9.Hi]]) (ps := []) tt_ok (ks := [19, 20, 21]) (hs := []) (by kernel_rfl) trivial ?_
              exact awpN_wk 1 [19, 20, 21] (by kernel_rfl) _ _ (by kernel_rfl) (by kernel_rfl) (hrn7 (w64 (c6 + 1)) h)
        · rw [if_neg (ntrue hb8)] at h
          refine awp_exit ?_
          obtain rfl := Option.some.inj h
          exact Sel.mk [0] [] (by kernel_rfl) (by kernel_rfl) (by kernel_rfl) OutQ.norm
      · intro e T H hq
        cases o5 with
        | inl ro5 =>
          obtain ⟨rfl, rfl, rfl⟩ := hq
          rw [outK_inl] at h
          obtain rfl := Option.some.inj h
          exact main_ret (by kernel_rfl)
        | inr so5 =>
          obtain ⟨rfl, rfl, rfl⟩ := hq
          rw [outK_inr] at h
          show awp _ _ _ _ _ _ _ _
          refine awp_sreg tt_ok (ks := [2, 3, 4]) (hs := []) [(2, vi 0), (3, vi 0), (4, vi 0)] [.cells [vi p_r.Steep, .d (L58 p_r.Points)]] [] (by kernel_rfl) trivial ?_
          obtain rfl := Option.some.inj h
          refine awp_wk 1 [2, 3, 4] (by kernel_rfl) [(2, vi 0), (3, vi 0), (4, vi 0)] [.cells [vi p_r.Steep, .d (L58 p_r.Points)]] (by kernel_rfl) (by kernel_rfl) ?_
          exact awp_ret (main_ret (by kernel_rfl))

-- hachure/carve.enter P
def F59 (fuel : Nat)  (p_r : S_api_CvRow) (surface : (List Int)) : Option (S_carve_row × Int) :=
  (F16 fuel p_r).bind fun x1 => if (x1.2.2 != 0) then (some ((⟨(⟨0, ([] : List S_api_CvPoint)⟩ : S_api_CvRow)⟩ : S_carve_row), x1.2.2)) else (if ((surface.length : Int) != (p_r.Points.length : Int)) then (some ((⟨(⟨0, ([] : List S_api_CvPoint)⟩ : S_api_CvRow)⟩ : S_carve_row), 3)) else ((F49 fuel 0 9000 surface).bind fun x4 => if x4 then (some ((⟨(⟨0, ([] : List S_api_CvPoint)⟩ : S_api_CvRow)⟩ : S_carve_row), 7)) else (some ((⟨p_r⟩ : S_carve_row), 0))))

set_option maxRecDepth 100000 in
theorem ct59 {fuel : Nat}  {p_r : S_api_CvRow} {surface : (List Int)} {res : S_carve_row × Int} (h : F59 fuel p_r surface = some res) : PCall Try.prog 59 [(.agg [(di p_r.Steep), (L58 p_r.Points)]), (L3 surface)] (.tup [.d (.agg [(di res.1.CvRow.Steep), (L58 res.1.CvRow.Points)]), vi res.2]) := by
  refine PCall.of_awp tt_ok (N := 30) Try.func59 rfl (by kernel_rfl) rfl (Nat.le_of_ble_eq_true rfl) rfl ?_
  unfold F59 at h
  refine awp_sreg tt_ok (ks := [1, 2, 4]) (hs := []) [(1, .d (L3 surface)), (2, .ref 0 0), (4, .ref 1 0)] [.cells [vi p_r.Steep, .d (L58 p_r.Points)], .cells [vi 0, .d dnil]] [] (by kernel_rfl) trivial ?_
  refine awp_seq ?_
  obtain ⟨x1, hx1, h⟩ := Option.bind_eq_some_iff.1 h
  refine awp_sreg tt_ok (ks := [1, 2, 4, 5]) (hs := [.no, .call [(.agg [(di p_r.Steep), (L58 p_r.Points)])] (.tup [vi x1.1, vi x1.2.1, vi x1.2.2])]) [(1, .d (L3 surface)), (2, .ref 0 0), (4, .ref 1 0), (5, vi x1.2.2)] [.cells [vi p_r.Steep, .d (L58 p_r.Points)], .cells [vi 0, .d dnil]] [PCall Try.prog 16 [(.agg [(di p_r.Steep), (L58 p_r.Points)])] (.tup [vi x1.1, vi x1.2.1, vi x1.2.2])] (by kernel_rfl) (ct16 hx1) ?_
  refine awp_sreg tt_ok (ks := [1, 2, 4, 5, 13]) (hs := []) [(1, .d (L3 surface)), (2, .ref 0 0), (4, .ref 1 0), (5, vi x1.2.2), (13, vb (x1.2.2 != 0))] [.cells [vi p_r.Steep, .d (L58 p_r.Points)], .cells [vi 0, .d dnil]] [] (by kernel_rfl) trivial ?_
  refine awp_cond (b := (x1.2.2 != 0)) (by kernel_rfl) (fun hb2 => ?_) (fun hb2 => ?_)
  · rw [if_pos hb2] at h
    refine awp_sreg tt_ok (ks := [4, 5]) (hs := []) [(4, .ref 1 0), (5, vi x1.2.2)] [.cells [vi p_r.Steep, .d (L58 p_r.Points)], .cells [vi 0, .d dnil]] [] (by kernel_rfl) trivial ?_
    obtain rfl := Option.some.inj h
    refine awp_wk 2 [4, 5] (by kernel_rfl) [(4, .ref 1 0), (5, vi x1.2.2)] [.cells [vi p_r.Steep, .d (L58 p_r.Points)], .cells [vi 0, .d dnil]] (by kernel_rfl) (by kernel_rfl) ?_
    refine awp_laxC 1 1 _ (L58 ([] : List S_api_CvPoint)) [vi 0, .d dnil] _ (by kernel_rfl) (by kernel_rfl) (.nil (e := 3)) rfl ?_
    refine awp_wk 2 [4, 5] (by kernel_rfl) [(4, .ref 1 0), (5, vi x1.2.2)] [.cells [vi p_r.Steep, .d (L58 p_r.Points)], .cells [vi 0, .d (L58 ([] : List S_api_CvPoint))]] (by kernel_rfl) (by kernel_rfl) ?_
    exact awp_ret (main_ret (by kernel_rfl))
  · rw [if_neg (ntrue hb2)] at h
    refine awp_skip ?_
    show awp _ _ _ _ _ _ _ _
    refine awp_seq ?_
    refine awp_block ?_
    refine awp_sreg tt_ok (ks := [1, 2, 4, 16]) (hs := []) [(1, .d (L3 surface)), (2, .ref 0 0), (4, .ref 1 0), (16, vb ((surface.length : Int) != (p_r.Points.length : Int)))] [.cells [vi p_r.Steep, .d (L58 p_r.Points)], .cells [vi 0, .d dnil]] [] (by kernel_rfl) trivial ?_
    refine awp_cond (b := ((surface.length : Int) != (p_r.Points.length : Int))) (by kernel_rfl) (fun hb3 => ?_) (fun hb3 => ?_)
    · rw [if_pos hb3] at h
      refine awp_sreg tt_ok (ks := [4, 5]) (hs := []) [(4, .ref 1 0), (5, vi 3)] [.cells [vi p_r.Steep, .d (L58 p_r.Points)], .cells [vi 0, .d dnil]] [] (by kernel_rfl) trivial ?_
      obtain rfl := Option.some.inj h
      refine awp_wk 2 [4, 5] (by kernel_rfl) [(4, .ref 1 0), (5, vi 3)] [.cells [vi p_r.Steep, .d (L58 p_r.Points)], .cells [vi 0, .d dnil]] (by kernel_rfl) (by kernel_rfl) ?_
      refine awp_laxC 1 1 _ (L58 ([] : List S_api_CvPoint)) [vi 0, .d dnil] _ (by kernel_rfl) (by kernel_rfl) (.nil (e := 3)) rfl ?_
      refine awp_wk 2 [4, 5] (by kernel_rfl) [(4, .ref 1 0), (5, vi 3)] [.cells [vi p_r.Steep, .d (L58 p_r.Points)], .cells [vi 0, .d (L58 ([] : List S_api_CvPoint))]] (by kernel_rfl) (by kernel_rfl) ?_
      exact awp_ret (main_ret (by kernel_rfl))
    · rw [if_neg (ntrue hb3)] at h
      obtain ⟨x4, hx4, h⟩ := Option.bind_eq_some_iff.1 h
      refine awp_sreg tt_ok (ks := [2, 4, 24]) (hs := [.no, .call [(di 0), (di 9000), (L3 surface)] (vb x4)]) [(2, .ref 0 0), (4, .ref 1 0), (24, vb x4)] [.cells [vi p_r.Steep, .d (L58 p_r.Points)], .cells [vi 0, .d dnil]] [PCall Try.prog 49 [(di 0), (di 9000), (L3 surface)] (vb x4)] (by kernel_rfl) (ct49 hx4) ?_
      refine awp_cond (b := x4) (by kernel_rfl) (fun hb5 => ?_) (fun hb5 => ?_)
      · rw [if_pos hb5] at h
        refine awp_sreg tt_ok (ks := [4, 5]) (hs := []) [(4, .ref 1 0), (5, vi 7)] [.cells [vi p_r.Steep, .d (L58 p_r.Points)], .cells [vi 0, .d dnil]] [] (by kernel_rfl) trivial ?_
        obtain rfl := Option.some.inj h
        refine awp_wk 2 [4, 5] (by kernel_rfl) [(4, .ref 1 0), (5, vi 7)] [.cells [vi p_r.Steep, .d (L58 p_r.Points)], .cells [vi 0, .d dnil]] (by kernel_rfl) (by kernel_rfl) ?_
        refine awp_laxC 1 1 _ (L58 ([] : List S_api_CvPoint)) [vi 0, .d dnil] _ (by kernel_rfl) (by kernel_rfl) (.nil (e := 3)) rfl ?_
        refine awp_wk 2 [4, 5] (by kernel_rfl) [(4, .ref 1 0), (5, vi 7)] [.cells [vi p_r.Steep, .d (L58 p_r.Points)], .cells [vi 0, .d (L58 ([] : List S_api_CvPoint))]] (by kernel_rfl) (by kernel_rfl) ?_
        exact awp_ret (main_ret (by kernel_rfl))
      · rw [if_neg (ntrue hb5)] at h
        refine awp_skip ?_
        show awp _ _ _ _ _ _ _ _
        refine awp_sreg tt_ok (ks := [4, 5]) (hs := []) [(4, .ref 1 0), (5, vi 0)] [.cells [vi p_r.Steep, .d (L58 p_r.Points)], .cells [vi p_r.Steep, .d (L58 p_r.Points)]] [] (by kernel_rfl) trivial ?_
        obtain rfl := Option.some.inj h
        refine awp_wk 2 [4, 5] (by kernel_rfl) [(4, .ref 1 0), (5, vi 0)] [.cells [vi p_r.Steep, .d (L58 p_r.Points)], .cells [vi p_r.Steep, .d (L58 p_r.Points)]] (by kernel_rfl) (by kernel_rfl) ?_
        exact awp_ret (main_ret (by kernel_rfl))

-- hachure/carve.Why P
def F26L1 (fuel : Nat) (p_r : S_api_CvRow) (surface : (List Int)) (x1 : S_carve_row × Int) : Nat → Int → Option ((Int × Int × Int) ⊕ (Unit))
  | 0, _ => none
  | n5 + 1, c4 => if (decide (c4 < (x1.1.CvRow.Points.length : Int))) then ((idx x1.1.CvRow.Points c4).bind fun x7 => (idx surface c4).bind fun x8 => if (decide (x8 < x7.Lo)) then (some (.inl (c4, 1, 0))) else (if (decide (x8 > x7.Hi)) then (some (.inl (c4, 2, 0))) else ((optG (decide (c4 > 0)) (idx surface (w64 (c4 - 1)))).bind fun x11 => (optG (decide (c4 > 0)) (F49 fuel (w64 (x8 - p_r.Steep)) (w64 (x8 + p_r.Steep)) ([x11] : List Int))).bind fun x12 => if (cond (decide (c4 > 0)) x12 false) then (some (.inl (c4, 3, 0))) else (F26L1 fuel p_r surface x1 n5 (w64 (c4 + 1)))))) else (some (.inr ()))

def F26 (fuel : Nat)  (p_r : S_api_CvRow) (surface : (List Int)) : Option (Int × Int × Int) :=
  (F59 fuel p_r surface).bind fun x1 => if (x1.2 != 0) then (some (0, 0, x1.2)) else ((F26L1 fuel p_r surface x1 fuel 0).bind fun o3 => outK o3 (fun (ro3 : Int × Int × Int) => some ro3) (fun (so3 : Unit) => some (0, 0, 0)))

set_option maxRecDepth 100000 in
theorem ct26 {fuel : Nat}  {p_r : S_api_CvRow} {surface : (List Int)} {res : Int × Int × Int} (h : F26 fuel p_r surface = some res) : PCall Try.prog 26 [(.agg [(di p_r.Steep), (L58 p_r.Points)]), (L3 surface)] (.tup [vi res.1, vi res.2.1, vi res.2.2]) := by
  refine PCall.of_awp tt_ok (N := 67) Try.func26 rfl (by kernel_rfl) rfl (Nat.le_of_ble_eq_true rfl) rfl ?_
  unfold F26 at h
  refine awp_sreg tt_ok (ks := [1, 2]) (hs := []) [(1, .d (L3 surface)), (2, .ref 0 0)] [.cells [vi p_r.Steep, .d (L58 p_r.Points)]] [] (by kernel_rfl) trivial ?_
  obtain ⟨x1, hx1, h⟩ := Option.bind_eq_some_iff.1 h
  refine awp_sreg tt_ok (ks := [1, 2, 6, 7]) (hs := [.no, .no, .call [(.agg [(di p_r.Steep), (L58 p_r.Points)]), (L3 surface)] (.tup [.d (.agg [(di x1.1.CvRow.Steep), (L58 x1.1.CvRow.Points)]), vi x1.2])]) [(1, .d (L3 surface)), (2, .ref 0 0), (6, vi x1.2), (7, .ref 1 0)] [.cells [vi p_r.Steep, .d (L58 p_r.Points)], .cells [vi x1.1.CvRow.Steep, .d (L58 x1.1.CvRow.Points)]] [PCall Try.prog 59 [(.agg [(di p_r.Steep), (L58 p_r.Points)]), (L3 surface)] (.tup [.d (.agg [(di x1.1.CvRow.Steep), (L58 x1.1.CvRow.Points)]), vi x1.2])] (by kernel_rfl) (ct59 hx1) ?_
  refine awp_seq ?_
  refine awp_sreg tt_ok (ks := [1, 2, 6, 7, 18]) (hs := []) [(1, .d (L3 surface)), (2, .ref 0 0), (6, vi x1.2), (7, .ref 1 0), (18, vb (x1.2 != 0))] [.cells [vi p_r.Steep, .d (L58 p_r.Points)], .cells [vi x1.1.CvRow.Steep, .d (L58 x1.1.CvRow.Points)]] [] (by kernel_rfl) trivial ?_
  refine awp_cond (b := (x1.2 != 0)) (by kernel_rfl) (fun hb2 => ?_) (fun hb2 => ?_)
  · rw [if_pos hb2] at h
    refine awp_sreg tt_ok (ks := [4, 5, 6]) (hs := []) [(4, vi 0), (5, vi 0), (6, vi x1.2)] [.cells [vi p_r.Steep, .d (L58 p_r.Points)], .cells [vi x1.1.CvRow.Steep, .d (L58 x1.1.CvRow.Points)]] [] (by kernel_rfl) trivial ?_
    obtain rfl := Option.some.inj h
    refine awp_wk 2 [4, 5, 6] (by kernel_rfl) [(4, vi 0), (5, vi 0), (6, vi x1.2)] [.cells [vi p_r.Steep, .d (L58 p_r.Points)], .cells [vi x1.1.CvRow.Steep, .d (L58 x1.1.CvRow.Points)]] (by kernel_rfl) (by kernel_rfl) ?_
    exact awp_ret (main_ret (by kernel_rfl))
  · rw [if_neg (ntrue hb2)] at h
    refine awp_skip ?_
    show awp _ _ _ _ _ _ _ _
    refine awp_seq ?_
    refine awp_sreg tt_ok (ks := [1, 2, 22, 23, 24]) (hs := []) [(1, .d (L3 surface)), (2, .ref 0 0), (22, .d (L58 x1.1.CvRow.Points)), (23, vi (x1.1.CvRow.Points.length : Int)), (24, vi 0)] [.cells [vi p_r.Steep, .d (L58 p_r.Points)], .cells [vi x1.1.CvRow.Steep, .d (L58 x1.1.CvRow.Points)]] [] (by kernel_rfl) trivial ?_
    obtain ⟨o3, ho3, h⟩ := Option.bind_eq_some_iff.1 h
    refine awp_cut1 (OutQ (fun (ro3 : Int × Int × Int) => [(4, vi ro3.1), (5, vi ro3.2.1), (6, vi ro3.2.2)]) (fun (ro3 : Int × Int × Int) => []) (fun (so3 : Unit) => []) (fun (so3 : Unit) => [.cells [vi p_r.Steep, .d (L58 p_r.Points)], .cells [vi x1.1.CvRow.Steep, .d (L58 x1.1.CvRow.Points)]]) o3) ?_ ?_
    · clear h
      have h := ho3
      clear ho3
      refine awp_selQ ?_
      refine awp_wk 2 [1, 2, 22, 23, 24] (by kernel_rfl) [(1, .d (L3 surface)), (2, .ref 0 0), (22, .d (L58 x1.1.CvRow.Points)), (23, vi (x1.1.CvRow.Points.length : Int)), (24, vi 0)] [.cells [vi p_r.Steep, .d (L58 p_r.Points)], .cells [vi x1.1.CvRow.Steep, .d (L58 x1.1.CvRow.Points)]] (by kernel_rfl) (by kernel_rfl) ?_
      refine awp_block ?_
      refine awp_loop (n := fuel) ?_
      refine awpN_ind (fun n (c4 : Int) => F26L1 fuel p_r surface x1 n c4) o3 (fun (c4 : Int) => [(1, .d (L3 surface)), (2, .ref 0 0), (22, .d (L58 x1.1.CvRow.Points)), (23, vi (x1.1.CvRow.Points.length : Int)), (24, vi c4)]) (fun (c4 : Int) => [.cells [vi p_r.Steep, .d (L58 p_r.Points)], .cells [vi x1.1.CvRow.Steep, .d (L58 x1.1.CvRow.Points)]]) (fun _ => rfl) ?_ fuel 0 h
      clear h
      intro n5 c4 h hrn5
      change F26L1 fuel p_r surface x1 (n5 + 1) c4 = some o3 at h
      rw [F26L1] at h
      refine awp_sreg tt_ok (ks := [1, 2, 22, 23, 24, 25]) (hs := []) [(1, .d (L3 surface)), (2, .ref 0 0), (22, .d (L58 x1.1.CvRow.Points)), (23, vi (x1.1.CvRow.Points.length : Int)), (24, vi c4), (25, vb (decide (c4 < (x1.1.CvRow.Points.length : Int))))] [.cells [vi p_r.Steep, .d (L58 p_r.Points)], .cells [vi x1.1.CvRow.Steep, .d (L58 x1.1.CvRow.Points)]] [] (by kernel_rfl) trivial ?_
      refine awp_seq ?_
      refine awp_cond (b := (decide (c4 < (x1.1.CvRow.Points.length : Int)))) (by kernel_rfl) (fun hb6 => ?_) (fun hb6 => ?_)
      · rw [if_pos hb6] at h
        refine awp_skip ?_
        show awp _ _ _ _ _ _ _ _
        refine awp_seq ?_
        refine awp_block ?_
        obtain ⟨x7, hx7, h⟩ := Option.bind_eq_some_iff.1 h
        refine awp_sreg tt_ok (ks := [1, 2, 8, 9, 22, 23, 24]) (hs := [.no, .cells (cel58 x7)]) [(1, .d (L3 surface)), (2, .ref 0 0), (8, vi c4), (9, .ref 2 0), (22, .d (L58 x1.1.CvRow.Points)), (23, vi (x1.1.CvRow.Points.length : Int)), (24, vi c4)] [.cells [vi p_r.Steep, .d (L58 p_r.Points)], .cells [vi x1.1.CvRow.Steep, .d (L58 x1.1.CvRow.Points)], .cells [vi x7.Board, vi x7.Lo, vi x7.Hi]] [IX58 x1.1.CvRow.Points c4 x7] (by kernel_rfl) (idxOk cel58_len hx7) ?_
        obtain ⟨x8, hx8, h⟩ := Option.bind_eq_some_iff.1 h
        refine awp_sreg tt_ok (ks := [1, 2, 8, 9, 10, 22, 23, 24]) (hs := [.no, .no, .cells (cel3 x8)]) [(1, .d (L3 surface)), (2, .ref 0 0), (8, vi c4), (9, .ref 2 0), (10, vi x8), (22, .d (L58 x1.1.CvRow.Points)), (23, vi (x1.1.CvRow.Points.length : Int)), (24, vi c4)] [.cells [vi p_r.Steep, .d (L58 p_r.Points)], .cells [vi x1.1.CvRow.Steep, .d (L58 x1.1.CvRow.Points)], .cells [vi x7.Board, vi x7.Lo, vi x7.Hi]] [IX3 surface c4 x8] (by kernel_rfl) (idxOk cel3_len hx8) ?_
        refine awp_block ?_
        refine awp_sreg tt_ok (ks := [1, 2, 8, 9, 10, 22, 23, 24, 33]) (hs := []) [(1, .d (L3 surface)), (2, .ref 0 0), (8, vi c4), (9, .ref 2 0), (10, vi x8), (22, .d (L58 x1.1.CvRow.Points)), (23, vi (x1.1.CvRow.Points.length : Int)), (24, vi c4), (33, vb (decide (x8 < x7.Lo)))] [.cells [vi p_r.Steep, .d (L58 p_r.Points)], .cells [vi x1.1.CvRow.Steep, .d (L58 x1.1.CvRow.Points)], .cells [vi x7.Board, vi x7.Lo, vi x7.Hi]] [] (by kernel_rfl) trivial ?_
        refine awp_cond (b := (decide (x8 < x7.Lo))) (by kernel_rfl) (fun hb9 => ?_) (fun hb9 => ?_)
        · rw [if_pos hb9] at h
          refine awp_sreg tt_ok (ks := [4, 5, 6]) (hs := []) [(4, vi c4), (5, vi 1), (6, vi 0)] [.cells [vi p_r.Steep, .d (L58 p_r.Points)], .cells [vi x1.1.CvRow.Steep, .d (L58 x1.1.CvRow.Points)], .cells [vi x7.Board, vi x7.Lo, vi x7.Hi]] [] (by kernel_rfl) trivial ?_
          obtain rfl := Option.some.inj h
          refine awp_wk 3 [4, 5, 6] (by kernel_rfl) [(4, vi c4), (5, vi 1), (6, vi 0)] [.cells [vi p_r.Steep, .d (L58 p_r.Points)], .cells [vi x1.1.CvRow.Steep, .d (L58 x1.1.CvRow.Points)], .cells [vi x7.Board, vi x7.Lo, vi x7.Hi]] (by kernel_rfl) (by kernel_rfl) ?_
          exact awp_ret (Sel.mk [] [4, 5, 6] (by kernel_rfl) (by kernel_rfl) (by kernel_rfl) OutQ.ret)
        · rw [if_neg (ntrue hb9)] at h
          refine awp_sreg tt_ok (ks := [1, 2, 8, 10, 22, 23, 24, 39]) (hs := []) [(1, .d (L3 surface)), (2, .ref 0 0), (8, vi c4), (10, vi x8), (22, .d (L58 x1.1.CvRow.Points)), (23, vi (x1.1.CvRow.Points.length : Int)), (24, vi c4), (39, vb (decide (x8 > x7.Hi)))] [.cells [vi p_r.Steep, .d (L58 p_r.Points)], .cells [vi x1.1.CvRow.Steep, .d (L58 x1.1.CvRow.Points)], .cells [vi x7.Board, vi x7.Lo, vi x7.Hi]] [] (by kernel_rfl) trivial ?_
          refine awp_cond (b := (decide (x8 > x7.Hi))) (by kernel_rfl) (fun hb10 => ?_) (fun hb10 => ?_)
          · rw [if_pos hb10] at h
            refine awp_sreg tt_ok (ks := [4, 5, 6]) (hs := []) [(4, vi c4), (5, vi 2), (6, vi 0)] [.cells [vi p_r.Steep, .d (L58 p_r.Points)], .cells [vi x1.1.CvRow.Steep, .d (L58 x1.1.CvRow.Points)], .cells [vi x7.Board, vi x7.Lo, vi x7.Hi]] [] (by kernel_rfl) trivial ?_
            obtain rfl := Option.some.inj h
            refine awp_wk 3 [4, 5, 6] (by kernel_rfl) [(4, vi c4), (5, vi 2), (6, vi 0)] [.cells [vi p_r.Steep, .d (L58 p_r.Points)], .cells [vi x1.1.CvRow.Steep, .d (L58 x1.1.CvRow.Points)], .cells [vi x7.Board, vi x7.Lo, vi x7.Hi]] (by kernel_rfl) (by kernel_rfl) ?_
            exact awp_ret (Sel.mk [] [4, 5, 6] (by kernel_rfl) (by kernel_rfl) (by kernel_rfl) OutQ.ret)
          · rw [if_neg (ntrue hb10)] at h
            obtain ⟨x11, hx11, h⟩ := Option.bind_eq_some_iff.1 h
            obtain ⟨x12, hx12, h⟩ := Option.bind_eq_some_iff.1 h
            refine awp_sdraw tt_ok mixed (ks := [1, 2, 8, 22, 23, 24, 45]) (hs := [.no, .no, .no, .no, .no, .no, .no, .no, .no, .no, .no, .no, .no, .no, .cells (cel3 x11), .no, .no, .call [(di (w64 (x8 - p_r.Steep))), (di (w64 (x8 + p_r.Steep))), (L3 ([x11] : List Int))] (vb x12)]) 17 [1, 2, 8, 22, 23, 24, 45, 48, 52, 56, 62, 63, 64] [(1, .d (L3 surface)), (2, .ref 0 0), (8, vi c4), (22, .d (L58 x1.1.CvRow.Points)), (23, vi (x1.1.CvRow.Points.length : Int)), (24, vi c4), (45, vb (cond (decide (c4 > 0)) x12 false))] [.cells [vi p_r.Steep, .d (L58 p_r.Points)], .cells [vi x1.1.CvRow.Steep, .d (L58 x1.1.CvRow.Points)], .cells [vi x7.Board, vi x7.Lo, vi x7.Hi]] [((decide (c4 > 0)) = true → (decide (c4 > 0)) = true), ((decide (c4 > 0)) = true → (decide (c4 > 0)) = true), ((decide (c4 > 0)) = true → (decide (c4 > 0)) = true), ((decide (c4 > 0)) = true → (decide (c4 > 0)) = true), ((decide (c4 > 0)) = true → (decide (c4 > 0)) = true), ((decide (c4 > 0)) = true → (decide (c4 > 0)) = true), ((decide (c4 > 0)) = true → (decide (c4 > 0)) = true), ((decide (c4 > 0)) = true → (decide (c4 > 0)) = true), ((decide (c4 > 0)) = true → (decide (c4 > 0)) = true), ((decide (c4 > 0)) = true → IX3 surface (w64 (c4 - 1)) x11), ((decide (c4 > 0)) = true → (decide (c4 > 0)) = true), ((decide (c4 > 0)) = true → (decide (c4 > 0)) = true), ((decide (c4 > 0)) = true → (decide (c4 > 0)) = true), ((decide (c4 > 0)) = true → (decide (c4 > 0)) = true), ((decide (c4 > 0)) = true → (decide (c4 > 0)) = true), ((decide (c4 > 0)) = true → PCall Try.prog 49 [(di (w64 (x8 - p_r.Steep))), (di (w64 (x8 + p_r.Steep))), (L3 ([x11] : List Int))] (vb x12)), ((decide (c4 > 0)) = true → (decide (c4 > 0)) = true)] (by kernel_rfl) (And.intro (id) (And.intro (id) (And.intro (id) (And.intro (id) (And.intro (id) (And.intro (id) (And.intro (id) (And.intro (id) (And.intro (id) (And.intro ((fun hg => idxOk cel3_len (optG_of hx11 hg))) (And.intro (id) (And.intro (id) (And.intro (id) (And.intro (id) (And.intro (id) (And.intro ((fun hg => ct49 (optG_of hx12 hg))) (id))))))))))))))))) ?_
            refine awp_cond (b := (cond (decide (c4 > 0)) x12 false)) (by kernel_rfl) (fun hb13 => ?_) (fun hb13 => ?_)
            · rw [if_pos hb13] at h
              refine awp_sreg tt_ok (ks := [4, 5, 6]) (hs := []) [(4, vi c4), (5, vi 3), (6, vi 0)] [.cells [vi p_r.Steep, .d (L58 p_r.Points)], .cells [vi x1.1.CvRow.Steep, .d (L58 x1.1.CvRow.Points)], .cells [vi x7.Board, vi x7.Lo, vi x7.Hi]] [] (by kernel_rfl) trivial ?_
              obtain rfl := Option.some.inj h
              refine awp_wk 3 [4, 5, 6] (by kernel_rfl) [(4, vi c4), (5, vi 3), (6, vi 0)] [.cells [vi p_r.Steep, .d (L58 p_r.Points)], .cells [vi x1.1.CvRow.Steep, .d (L58 x1.1.CvRow.Points)], .cells [vi x7.Board, vi x7.Lo, vi x7.Hi]] (by kernel_rfl) (by kernel_rfl) ?_
              exact awp_ret (Sel.mk [] [4, 5, 6] (by kernel_rfl) (by kernel_rfl) (by kernel_rfl) OutQ.ret)
            · rw [if_neg (ntrue hb13)] at h
              refine awp_skip ?_
              show awp _ _ _ _ _ _ _ _
              refine awp_region (T' := [(1, .d (L3 surface)), (2, .ref 0 0), (22, .d (L58 x1.1.CvRow.Points)), (23, vi (x1.1.CvRow.Points.length : Int)), (24, vi (w64 (c4 + 1)))]) (H' := [.cells [vi p_r.Steep, .d (L58 p_r.Points)], .cells [vi x1.1.CvRow.Steep, .d (L58 x1.1.CvRow.Points)], .cells [vi x7.Board, vi x7.Lo, vi x7.Hi]]) (ps := []) tt_ok (ks := [1, 2, 22, 23, 24]) (hs := []) (by kernel_rfl) trivial ?_
              exact awpN_wk 2 [1, 2, 22, 23, 24] (by kernel_rfl) _ _ (by kernel_rfl) (by kernel_rfl) (hrn5 (w64 (c4 + 1)) h)
      · rw [if_neg (ntrue hb6)] at h
        refine awp_exit ?_
        obtain rfl := Option.some.inj h
        exact Sel.mk [0, 1] [] (by kernel_rfl) (by kernel_rfl) (by kernel_rfl) OutQ.norm
    · intro e T H hq
      cases o3 with
      | inl ro3 =>
        obtain ⟨rfl, rfl, rfl⟩ := hq
        rw [outK_inl] at h
        obtain rfl := Option.some.inj h
        exact main_ret (by kernel_rfl)
      | inr so3 =>
        obtain ⟨rfl, rfl, rfl⟩ := hq
        rw [outK_inr] at h
        show awp _ _ _ _ _ _ _ _
        refine awp_sreg tt_ok (ks := [4, 5, 6]) (hs := []) [(4, vi 0), (5, vi 0), (6, vi 0)] [.cells [vi p_r.Steep, .d (L58 p_r.Points)], .cells [vi x1.1.CvRow.Steep, .d (L58 x1.1.CvRow.Points)]] [] (by kernel_rfl) trivial ?_
        obtain rfl := Option.some.inj h
        refine awp_wk 2 [4, 5, 6] (by kernel_rfl) [(4, vi 0), (5, vi 0), (6, vi 0)] [.cells [vi p_r.Steep, .d (L58 p_r.Points)], .cells [vi x1.1.CvRow.Steep, .d (L58 x1.1.CvRow.Points)]] (by kernel_rfl) (by kernel_rfl) ?_
        exact awp_ret (main_ret (by kernel_rfl))

-- (hachure/carve.row).neighbours H
def F74v1  (p_x : S_carve_row) : Option (Int × (List S_api_CvPoint)) :=
  some (p_x.CvRow.Steep, p_x.CvRow.Points)

set_option maxRecDepth 100000 in
theorem ct74v1  {p_x : S_carve_row} {res : Int × (List S_api_CvPoint)} (h : F74v1 p_x = some res) : HCall Try.prog 74 [.d (.agg [(di p_x.CvRow.Steep), (L58 p_x.CvRow.Points)])] [] (.fn (.func 80) [] [.ref 0 0]) [.cells [vi res.1, .d (L58 res.2)]] := by
  refine HCall.of_awpS tt_ok (N := 4) (fl := 0) Try.func74 rfl (by kernel_rfl) rfl rfl (Nat.le_of_ble_eq_true rfl) ?_
  unfold F74v1 at h
  refine awp_sreg tt_ok (ks := [1]) (hs := []) [(1, .ref 0 0)] [.cells [vi p_x.CvRow.Steep, .d (L58 p_x.CvRow.Points)]] [] (by kernel_rfl) trivial ?_
  refine awp_sreg tt_ok (ks := [2]) (hs := []) [(2, .fn (.func 80) [] [.ref 0 0])] [.cells [vi p_x.CvRow.Steep, .d (L58 p_x.CvRow.Points)]] [] (by kernel_rfl) trivial ?_
  obtain rfl := Option.some.inj h
  refine awp_wk 1 [2] (by kernel_rfl) [(2, .fn (.func 80) [] [.ref 0 0])] [.cells [vi p_x.CvRow.Steep, .d (L58 p_x.CvRow.Points)]] (by kernel_rfl) (by kernel_rfl) ?_
  exact awp_ret (main_retS [0] (.fn (.func 80) [] [.ref 0 0]) (by kernel_rfl) (by kernel_rfl) (by kernel_rfl) (by kernel_rfl))

-- (hachure/carve.row).bounds R
def F51r  (y1 : Int) (y2 : Int) (b1x0 : Int) (b1x1 : List S_api_CvPoint) (a3 : List S_api_Span) : Option ((List S_api_Span)) :=
  (idx a3 y2).bind fun x1 => (idx a3 y1).bind fun x2 => (idx a3 y2).bind fun x3 => (idx (a3.set y2.toNat (⟨(if (w64 (x2.Lo - b1x0)) > x1.Lo then (w64 (x2.Lo - b1x0)) else x1.Lo), x3.Hi⟩ : S_api_Span)) y2).bind fun x4 => (idx (a3.set y2.toNat (⟨(if (w64 (x2.Lo - b1x0)) > x1.Lo then (w64 (x2.Lo - b1x0)) else x1.Lo), x3.Hi⟩ : S_api_Span)) y1).bind fun x5 => (idx (a3.set y2.toNat (⟨(if (w64 (x2.Lo - b1x0)) > x1.Lo then (w64 (x2.Lo - b1x0)) else x1.Lo), x3.Hi⟩ : S_api_Span)) y2).bind fun x6 => some ((a3.set y2.toNat (⟨(if (w64 (x2.Lo - b1x0)) > x1.Lo then (w64 (x2.Lo - b1x0)) else x1.Lo), x3.Hi⟩ : S_api_Span)).set y2.toNat (⟨x6.Lo, (if (w64 (x5.Hi + b1x0)) < x4.Hi then (w64 (x5.Hi + b1x0)) else x4.Hi)⟩ : S_api_Span))

set_option maxRecDepth 100000 in
theorem ct51r  {y1 : Int} {y2 : Int} {b1x0 : Int} {b1x1 : List S_api_CvPoint} {a3 : List S_api_Span} {res : (List S_api_Span)} (h : F51r y1 y2 b1x0 b1x1 a3 = some res) : YCall Try.prog [.yld 0, vi y1, vi y2] [.loop (some none) [34, 35] asn51x0 bdy51x0 78 [(1, .ref 1 0), (4, .ref 2 0)], .cells [vi b1x0, .d (L58 b1x1)], .cells [.sl 2 3 0 a3.length], .fixed (a3.flatMap cel56)] (vb true) [.loop (some none) [34, 35] asn51x0 bdy51x0 78 [(1, .ref 1 0), (4, .ref 2 0)], .cells [vi b1x0, .d (L58 b1x1)], .cells [.sl 2 3 0 res.length], .fixed (res.flatMap cel56)] := by
  refine YCall.of_awp (N := 78) (k := 0) (ps := [34, 35]) (asg := asn51x0) (bd := bdy51x0) (Tl := [(1, .ref 1 0), (4, .ref 2 0)]) rfl (by kernel_rfl) rfl ?_
  refine awp_eq (T' := [(35, vi y2), (34, vi y1), (1, .ref 1 0), (4, .ref 2 0)]) (H' := [.loop (some none) [34, 35] asn51x0 bdy51x0 78 [(1, .ref 1 0), (4, .ref 2 0)], .cells [vi b1x0, .d (L58 b1x1)], .cells [.sl 2 3 0 a3.length], .fixed (a3.flatMap cel56)]) (by kernel_rfl) rfl ?_
  change awp _ _ _ _ asn51x0 _ _ _
  unfold F51r at h
  refine awp_sreg tt_ok (ks := [1, 4, 7, 35]) (hs := []) [(1, .ref 1 0), (4, .ref 2 0), (7, vi y1), (35, vi y2)] [.loop (some none) [34, 35] asn51x0 bdy51x0 78 [(1, .ref 1 0), (4, .ref 2 0)], .cells [vi b1x0, .d (L58 b1x1)], .cells [.sl 2 3 0 a3.length], .fixed (a3.flatMap cel56)] [] (by kernel_rfl) trivial ?_
  refine awp_region (T' := [(1, .ref 1 0), (4, .ref 2 0), (7, vi y1), (8, vi y2)]) (H' := [.loop (some none) [34, 35] asn51x0 bdy51x0 78 [(1, .ref 1 0), (4, .ref 2 0)], .cells [vi b1x0, .d (L58 b1x1)], .cells [.sl 2 3 0 a3.length], .fixed (a3.flatMap cel56)]) (ps := []) tt_ok (ks := [1, 4, 7, 8]) (hs := []) (by kernel_rfl) trivial ?_
  refine ⟨rfl, by kernel_rfl, ?_⟩
  refine awp_eq (T' := [(1, .ref 1 0), (4, .ref 2 0), (7, vi y1), (8, vi y2)]) (H' := [.loop (none) [34, 35] asn51x0 bdy51x0 78 [(1, .ref 1 0), (4, .ref 2 0)], .cells [vi b1x0, .d (L58 b1x1)], .cells [.sl 2 3 0 a3.length], .fixed (a3.flatMap cel56)]) rfl rfl ?_
  refine awp_wkQ ?_
  refine awp_block ?_
  obtain ⟨x1, hx1, h⟩ := Option.bind_eq_some_iff.1 h
  obtain ⟨x2, hx2, h⟩ := Option.bind_eq_some_iff.1 h
  obtain ⟨x3, hx3, h⟩ := Option.bind_eq_some_iff.1 h
  refine awp_sdraw tt_ok mixed (ks := [1, 4, 7, 8]) (hs := [.no, .no, .no, .no, .no, .no, .vals (([(di x1.Lo)] : List D).map .d), .no, .no, .no, .no, .vals (([(di x2.Lo)] : List D).map .d), .no, .no, .no, .no, .no, .no, .no, .cells ((a3.set y2.toNat (⟨(if (w64 (x2.Lo - b1x0)) > x1.Lo then (w64 (x2.Lo - b1x0)) else x1.Lo), x3.Hi⟩ : S_api_Span)).flatMap cel56)]) 17 [1, 4, 7, 8, 36, 37, 52, 53, 54] [(1, .ref 1 0), (4, .ref 2 0), (7, vi y1), (8, vi y2)] [.loop (none) [34, 35] asn51x0 bdy51x0 78 [(1, .ref 1 0), (4, .ref 2 0)], .cells [vi b1x0, .d (L58 b1x1)], .cells [.sl 2 3 0 a3.length], .fixed ((a3.set y2.toNat (⟨(if (w64 (x2.Lo - b1x0)) > x1.Lo then (w64 (x2.Lo - b1x0)) else x1.Lo), x3.Hi⟩ : S_api_Span)).flatMap cel56)] [(0 ≤ y2 ∧ y2 < (a3.length : Int)), LoadOk ((a3.flatMap cel56).map .d) (0 + y2.toNat * 2 + 0) 1 (([(di x1.Lo)] : List D).map .d), (0 ≤ y1 ∧ y1 < (a3.length : Int)), LoadOk ((a3.flatMap cel56).map .d) (0 + y1.toNat * 2 + 0) 1 (([(di x2.Lo)] : List D).map .d), (0 ≤ y2 ∧ y2 < (a3.length : Int)), StoreOk ((a3.flatMap cel56).map .d) (0 + y2.toNat * 2 + 0) (([(di (if (w64 (x2.Lo - b1x0)) > x1.Lo then (w64 (x2.Lo - b1x0)) else x1.Lo))] : List D).map .d) (((a3.set y2.toNat (⟨(if (w64 (x2.Lo - b1x0)) > x1.Lo then (w64 (x2.Lo - b1x0)) else x1.Lo), x3.Hi⟩ : S_api_Span)).flatMap cel56).map .d)] (by kernel_rfl) (And.intro (idx_bounds hx1) (And.intro (loadOk (j := 0) (es := ([(di x1.Lo)] : List D)) cel56_len hx1 rfl rfl rfl (Nat.le_of_ble_eq_true rfl)) (And.intro (idx_bounds hx2) (And.intro (loadOk (j := 0) (es := ([(di x2.Lo)] : List D)) cel56_len hx2 rfl rfl rfl (Nat.le_of_ble_eq_true rfl)) (And.intro (idx_bounds hx3) (storeOk (j := 0) (us := ([(di (if (w64 (x2.Lo - b1x0)) > x1.Lo then (w64 (x2.Lo - b1x0)) else x1.Lo))] : List D)) (y := (⟨(if (w64 (x2.Lo - b1x0)) > x1.Lo then (w64 (x2.Lo - b1x0)) else x1.Lo), x3.Hi⟩ : S_api_Span)) cel56_len hx3 rfl rfl (Nat.le_of_ble_eq_true rfl))))))) ?_
  obtain ⟨x4, hx4, h⟩ := Option.bind_eq_some_iff.1 h
  obtain ⟨x5, hx5, h⟩ := Option.bind_eq_some_iff.1 h
  obtain ⟨x6, hx6, h⟩ := Option.bind_eq_some_iff.1 h
  refine awp_draw (T' := []) (H' := [.loop (none) [34, 35] asn51x0 bdy51x0 78 [(1, .ref 1 0), (4, .ref 2 0)], .cells [vi b1x0, .d (L58 b1x1)], .cells [.sl 2 3 0 a3.length], .fixed (((a3.set y2.toNat (⟨(if (w64 (x2.Lo - b1x0)) > x1.Lo then (w64 (x2.Lo - b1x0)) else x1.Lo), x3.Hi⟩ : S_api_Span)).set y2.toNat (⟨x6.Lo, (if (w64 (x5.Hi + b1x0)) < x4.Hi then (w64 (x5.Hi + b1x0)) else x4.Hi)⟩ : S_api_Span)).flatMap cel56)]) (ps := [(0 ≤ y2 ∧ y2 < (a3.length : Int)), LoadOk (((a3.set y2.toNat (⟨(if (w64 (x2.Lo - b1x0)) > x1.Lo then (w64 (x2.Lo - b1x0)) else x1.Lo), x3.Hi⟩ : S_api_Span)).flatMap cel56).map .d) (0 + y2.toNat * 2 + 1) 1 (([(di x4.Hi)] : List D).map .d), (0 ≤ y1 ∧ y1 < (a3.length : Int)), LoadOk (((a3.set y2.toNat (⟨(if (w64 (x2.Lo - b1x0)) > x1.Lo then (w64 (x2.Lo - b1x0)) else x1.Lo), x3.Hi⟩ : S_api_Span)).flatMap cel56).map .d) (0 + y1.toNat * 2 + 1) 1 (([(di x5.Hi)] : List D).map .d), (0 ≤ y2 ∧ y2 < (a3.length : Int)), StoreOk (((a3.set y2.toNat (⟨(if (w64 (x2.Lo - b1x0)) > x1.Lo then (w64 (x2.Lo - b1x0)) else x1.Lo), x3.Hi⟩ : S_api_Span)).flatMap cel56).map .d) (0 + y2.toNat * 2 + 1) (([(di (if (w64 (x5.Hi + b1x0)) < x4.Hi then (w64 (x5.Hi + b1x0)) else x4.Hi))] : List D).map .d) ((((a3.set y2.toNat (⟨(if (w64 (x2.Lo - b1x0)) > x1.Lo then (w64 (x2.Lo - b1x0)) else x1.Lo), x3.Hi⟩ : S_api_Span)).set y2.toNat (⟨x6.Lo, (if (w64 (x5.Hi + b1x0)) < x4.Hi then (w64 (x5.Hi + b1x0)) else x4.Hi)⟩ : S_api_Span)).flatMap cel56).map .d)]) tt_ok mixed (ks := []) (hs := [.no, .no, .no, .no, .no, .no, .vals (([(di x4.Hi)] : List D).map .d), .no, .no, .no, .no, .vals (([(di x5.Hi)] : List D).map .d), .no, .no, .no, .no, .no, .no, .no, .cells (((a3.set y2.toNat (⟨(if (w64 (x2.Lo - b1x0)) > x1.Lo then (w64 (x2.Lo - b1x0)) else x1.Lo), x3.Hi⟩ : S_api_Span)).set y2.toNat (⟨x6.Lo, (if (w64 (x5.Hi + b1x0)) < x4.Hi then (w64 (x5.Hi + b1x0)) else x4.Hi)⟩ : S_api_Span)).flatMap cel56)]) (m := 17) (mid := [55, 56, 71, 72, 73]) (by kernel_rfl) (And.intro ((by have h0 := idx_bounds hx4; simp only [List.length_set] at h0; exact h0)) (And.intro (loadOk (j := 1) (es := ([(di x4.Hi)] : List D)) cel56_len hx4 rfl rfl rfl (Nat.le_of_ble_eq_true rfl)) (And.intro ((by have h0 := idx_bounds hx5; simp only [List.length_set] at h0; exact h0)) (And.intro (loadOk (j := 1) (es := ([(di x5.Hi)] : List D)) cel56_len hx5 rfl rfl rfl (Nat.le_of_ble_eq_true rfl)) (And.intro ((by have h0 := idx_bounds hx6; simp only [List.length_set] at h0; exact h0)) (storeOk (j := 1) (us := ([(di (if (w64 (x5.Hi + b1x0)) < x4.Hi then (w64 (x5.Hi + b1x0)) else x4.Hi))] : List D)) (y := (⟨x6.Lo, (if (w64 (x5.Hi + b1x0)) < x4.Hi then (w64 (x5.Hi + b1x0)) else x4.Hi)⟩ : S_api_Span)) cel56_len hx6 rfl rfl (Nat.le_of_ble_eq_true rfl))))))) ?_
  obtain rfl := Option.some.inj h
  try delta blockQ
  try delta thenQ
  try delta noGotoA
  show Wk _ _ _ _ _
  refine Wk.mk 4 [] (by kernel_rfl) (T' := []) (H' := [.loop (none) [34, 35] asn51x0 bdy51x0 78 [(1, .ref 1 0), (4, .ref 2 0)], .cells [vi b1x0, .d (L58 b1x1)], .cells [.sl 2 3 0 ((a3.set y2.toNat (⟨(if (w64 (x2.Lo - b1x0)) > x1.Lo then (w64 (x2.Lo - b1x0)) else x1.Lo), x3.Hi⟩ : S_api_Span)).set y2.toNat (⟨x6.Lo, (if (w64 (x5.Hi + b1x0)) < x4.Hi then (w64 (x5.Hi + b1x0)) else x4.Hi)⟩ : S_api_Span)).length], .fixed (((a3.set y2.toNat (⟨(if (w64 (x2.Lo - b1x0)) > x1.Lo then (w64 (x2.Lo - b1x0)) else x1.Lo), x3.Hi⟩ : S_api_Span)).set y2.toNat (⟨x6.Lo, (if (w64 (x5.Hi + b1x0)) < x4.Hi then (w64 (x5.Hi + b1x0)) else x4.Hi)⟩ : S_api_Span)).flatMap cel56)]) (by kernel_rfl) (by simp only [List.length_set]; kernel_rfl) ?_
  exact ⟨none, rfl, rfl, by kernel_rfl, by kernel_rfl⟩

-- (hachure/carve.row).neighbours.1 H
def F80L1 (b1x0 : Int) (b1x1 : List S_api_CvPoint) (b4x1 : List S_api_CvPoint) : Nat → (Int × (List S_api_Span)) → Option (((List S_api_Span)) ⊕ ((List S_api_Span)))
  | 0, _ => none
  | n3 + 1, c2 => if (decide (c2.1 < (b4x1.length : Int))) then ((F51r (w64 (c2.1 - 1)) c2.1 b1x0 b1x1 c2.2).bind fun x5 => F80L1 b1x0 b1x1 b4x1 n3 ((w64 (c2.1 + 1)), x5)) else (some (.inr c2.2))

def F80L2 (b1x0 : Int) (b1x1 : List S_api_CvPoint) : Nat → (Int × (List S_api_Span)) → Option (((List S_api_Span)) ⊕ ((List S_api_Span)))
  | 0, _ => none
  | n8 + 1, c7 => if (decide (c7.1 > 0)) then ((F51r c7.1 (w64 (c7.1 - 1)) b1x0 b1x1 c7.2).bind fun x10 => F80L2 b1x0 b1x1 n8 ((w64 (c7.1 - 1)), x10)) else (some (.inr c7.2))

def F80 (fuel : Nat)  (b1x0 : Int) (b1x1 : List S_api_CvPoint) (a3 : List S_api_Span) (b4x0 : Int) (b4x1 : List S_api_CvPoint) : Option ((List S_api_Span)) :=
  (F80L1 b1x0 b1x1 b4x1 fuel (1, a3)).bind fun o1 => outK o1 (fun (ro1 : (List S_api_Span)) => some ro1) (fun (so1 : (List S_api_Span)) => (F80L2 b1x0 b1x1 fuel ((w64 ((b4x1.length : Int) - 1)), so1)).bind fun o6 => outK o6 (fun (ro6 : (List S_api_Span)) => some ro6) (fun (so6 : (List S_api_Span)) => some so6))

set_option maxRecDepth 100000 in
theorem ct80 {fuel : Nat}  {b1x0 : Int} {b1x1 : List S_api_CvPoint} {a3 : List S_api_Span} {b4x0 : Int} {b4x1 : List S_api_CvPoint} {res : (List S_api_Span)} (h : F80 fuel b1x0 b1x1 a3 b4x0 b4x1 = some res) : HCall Try.prog 80 [.yld 0, .ref 4 0] [.loop (some none) [34, 35] asn51x0 bdy51x0 78 [(1, .ref 1 0), (4, .ref 2 0)], .cells [vi b1x0, .d (L58 b1x1)], .cells [.sl 2 3 0 a3.length], .fixed (a3.flatMap cel56), .cells [vi b4x0, .d (L58 b4x1)]] (.tup []) [.loop (some none) [34, 35] asn51x0 bdy51x0 78 [(1, .ref 1 0), (4, .ref 2 0)], .cells [vi b1x0, .d (L58 b1x1)], .cells [.sl 2 3 0 res.length], .fixed (res.flatMap cel56), .cells [vi b4x0, .d (L58 b4x1)]] := by
  refine HCall.of_awpS tt_ok (N := 34) (fl := 5) Try.func80 rfl (by kernel_rfl) rfl rfl (Nat.le_of_ble_eq_true rfl) ?_
  unfold F80 at h
  refine awp_seq ?_
  refine awp_sreg tt_ok (ks := [0, 1, 3]) (hs := []) [(0, .yld 0), (1, .ref 4 0), (3, vi 1)] [.loop (some none) [34, 35] asn51x0 bdy51x0 78 [(1, .ref 1 0), (4, .ref 2 0)], .cells [vi b1x0, .d (L58 b1x1)], .cells [.sl 2 3 0 a3.length], .fixed (a3.flatMap cel56), .cells [vi b4x0, .d (L58 b4x1)]] [] (by kernel_rfl) trivial ?_
  obtain ⟨o1, ho1, h⟩ := Option.bind_eq_some_iff.1 h
  refine awp_cut1 (OutQ (fun (ro1 : (List S_api_Span)) => []) (fun (ro1 : (List S_api_Span)) => [.loop (some none) [34, 35] asn51x0 bdy51x0 78 [(1, .ref 1 0), (4, .ref 2 0)], .cells [vi b1x0, .d (L58 b1x1)], .cells [.sl 2 3 0 ro1.length], .fixed (ro1.flatMap cel56), .cells [vi b4x0, .d (L58 b4x1)]]) (fun (so1 : (List S_api_Span)) => [(0, .yld 0), (1, .ref 4 0)]) (fun (so1 : (List S_api_Span)) => [.loop (some none) [34, 35] asn51x0 bdy51x0 78 [(1, .ref 1 0), (4, .ref 2 0)], .cells [vi b1x0, .d (L58 b1x1)], .cells [.sl 2 3 0 so1.length], .fixed (so1.flatMap cel56), .cells [vi b4x0, .d (L58 b4x1)]]) o1) ?_ ?_
  · clear h
    have h := ho1
    clear ho1
    refine awp_selQ ?_
    refine awp_wk 5 [0, 1, 3] (by kernel_rfl) [(0, .yld 0), (1, .ref 4 0), (3, vi 1)] [.loop (some none) [34, 35] asn51x0 bdy51x0 78 [(1, .ref 1 0), (4, .ref 2 0)], .cells [vi b1x0, .d (L58 b1x1)], .cells [.sl 2 3 0 a3.length], .fixed (a3.flatMap cel56), .cells [vi b4x0, .d (L58 b4x1)]] (by kernel_rfl) (by kernel_rfl) ?_
    refine awp_block ?_
    refine awp_loop (n := fuel) ?_
    refine awpN_ind (fun n (c2 : Int × (List S_api_Span)) => F80L1 b1x0 b1x1 b4x1 n c2) o1 (fun (c2 : Int × (List S_api_Span)) => [(0, .yld 0), (1, .ref 4 0), (3, vi c2.1)]) (fun (c2 : Int × (List S_api_Span)) => [.loop (some none) [34, 35] asn51x0 bdy51x0 78 [(1, .ref 1 0), (4, .ref 2 0)], .cells [vi b1x0, .d (L58 b1x1)], .cells [.sl 2 3 0 c2.2.length], .fixed (c2.2.flatMap cel56), .cells [vi b4x0, .d (L58 b4x1)]]) (fun _ => rfl) ?_ fuel (1, a3) h
    clear h
    intro n3 c2 h hrn3
    change F80L1 b1x0 b1x1 b4x1 (n3 + 1) c2 = some o1 at h
    rw [F80L1] at h
    refine awp_seq ?_
    refine awp_sreg tt_ok (ks := [0, 1, 3, 10]) (hs := []) [(0, .yld 0), (1, .ref 4 0), (3, vi c2.1), (10, vb (decide (c2.1 < (b4x1.length : Int))))] [.loop (some none) [34, 35] asn51x0 bdy51x0 78 [(1, .ref 1 0), (4, .ref 2 0)], .cells [vi b1x0, .d (L58 b1x1)], .cells [.sl 2 3 0 c2.2.length], .fixed (c2.2.flatMap cel56), .cells [vi b4x0, .d (L58 b4x1)]] [] (by kernel_rfl) trivial ?_
    refine awp_cond (b := (decide (c2.1 < (b4x1.length : Int)))) (by kernel_rfl) (fun hb4 => ?_) (fun hb4 => ?_)
    · rw [if_pos hb4] at h
      refine awp_skip ?_
      show awp _ _ _ _ _ _ _ _
      refine awp_seq ?_
      refine awp_block ?_
      obtain ⟨x5, hx5, h⟩ := Option.bind_eq_some_iff.1 h
      refine awp_sreg tt_ok (ks := [0, 1, 3, 18]) (hs := [.no, .no, .no, .no, .hcall [(0, false), (1, false), (2, false), (3, false)] (vb true) [.loop (some none) [34, 35] asn51x0 bdy51x0 78 [(1, .ref 1 0), (4, .ref 2 0)], .cells [vi b1x0, .d (L58 b1x1)], .cells [.sl 2 3 0 x5.length], .fixed (x5.flatMap cel56)]]) [(0, .yld 0), (1, .ref 4 0), (3, vi c2.1), (18, vb false)] [.loop (some none) [34, 35] asn51x0 bdy51x0 78 [(1, .ref 1 0), (4, .ref 2 0)], .cells [vi b1x0, .d (L58 b1x1)], .cells [.sl 2 3 0 x5.length], .fixed (x5.flatMap cel56), .cells [vi b4x0, .d (L58 b4x1)]] [YCall Try.prog [.yld 0, vi (w64 (c2.1 - 1)), vi c2.1] [.loop (some none) [34, 35] asn51x0 bdy51x0 78 [(1, .ref 1 0), (4, .ref 2 0)], .cells [vi b1x0, .d (L58 b1x1)], .cells [.sl 2 3 0 c2.2.length], .fixed (c2.2.flatMap cel56)] (vb true) [.loop (some none) [34, 35] asn51x0 bdy51x0 78 [(1, .ref 1 0), (4, .ref 2 0)], .cells [vi b1x0, .d (L58 b1x1)], .cells [.sl 2 3 0 x5.length], .fixed (x5.flatMap cel56)]] (by kernel_rfl) (ct51r hx5) ?_
      refine awp_cond (b := false) (by kernel_rfl) (fun hb => absurd hb (by decide)) (fun hb => ?_)
      refine awp_skip ?_
      show awp _ _ _ _ _ _ _ _
      refine awp_region (T' := [(0, .yld 0), (1, .ref 4 0), (3, vi (w64 (c2.1 + 1)))]) (H' := [.loop (some none) [34, 35] asn51x0 bdy51x0 78 [(1, .ref 1 0), (4, .ref 2 0)], .cells [vi b1x0, .d (L58 b1x1)], .cells [.sl 2 3 0 x5.length], .fixed (x5.flatMap cel56), .cells [vi b4x0, .d (L58 b4x1)]]) (ps := []) tt_ok (ks := [0, 1, 3]) (hs := []) (by kernel_rfl) trivial ?_
      exact awpN_wk 5 [0, 1, 3] (by kernel_rfl) _ _ (by kernel_rfl) (by kernel_rfl) (hrn3 ((w64 (c2.1 + 1)), x5) h)
    · rw [if_neg (ntrue hb4)] at h
      refine awp_exit ?_
      obtain rfl := Option.some.inj h
      exact Sel.mk [0, 1, 2, 3, 4] [0, 1] (by kernel_rfl) (by kernel_rfl) (by kernel_rfl) OutQ.norm
  · intro e T H hq
    cases o1 with
    | inl ro1 =>
      obtain ⟨rfl, rfl, rfl⟩ := hq
      rw [outK_inl] at h
      obtain rfl := Option.some.inj h
      exact (main_retS [0, 1, 2, 3, 4] (.tup []) (by kernel_rfl) (by kernel_rfl) (by kernel_rfl) (by kernel_rfl))
    | inr so1 =>
      obtain ⟨rfl, rfl, rfl⟩ := hq
      rw [outK_inr] at h
      show awp _ _ _ _ _ _ _ _
      refine awp_sreg tt_ok (ks := [0, 4]) (hs := []) [(0, .yld 0), (4, vi (w64 ((b4x1.length : Int) - 1)))] [.loop (some none) [34, 35] asn51x0 bdy51x0 78 [(1, .ref 1 0), (4, .ref 2 0)], .cells [vi b1x0, .d (L58 b1x1)], .cells [.sl 2 3 0 so1.length], .fixed (so1.flatMap cel56), .cells [vi b4x0, .d (L58 b4x1)]] [] (by kernel_rfl) trivial ?_
      obtain ⟨o6, ho6, h⟩ := Option.bind_eq_some_iff.1 h
      refine awp_cut1 (OutQ (fun (ro6 : (List S_api_Span)) => []) (fun (ro6 : (List S_api_Span)) => [.loop (some none) [34, 35] asn51x0 bdy51x0 78 [(1, .ref 1 0), (4, .ref 2 0)], .cells [vi b1x0, .d (L58 b1x1)], .cells [.sl 2 3 0 ro6.length], .fixed (ro6.flatMap cel56), .cells [vi b4x0, .d (L58 b4x1)]]) (fun (so6 : (List S_api_Span)) => []) (fun (so6 : (List S_api_Span)) => [.loop (some none) [34, 35] asn51x0 bdy51x0 78 [(1, .ref 1 0), (4, .ref 2 0)], .cells [vi b1x0, .d (L58 b1x1)], .cells [.sl 2 3 0 so6.length], .fixed (so6.flatMap cel56), .cells [vi b4x0, .d (L58 b4x1)]]) o6) ?_ ?_
      · clear h
        have h := ho6
        clear ho6
        refine awp_selQ ?_
        refine awp_wk 5 [0, 4] (by kernel_rfl) [(0, .yld 0), (4, vi (w64 ((b4x1.length : Int) - 1)))] [.loop (some none) [34, 35] asn51x0 bdy51x0 78 [(1, .ref 1 0), (4, .ref 2 0)], .cells [vi b1x0, .d (L58 b1x1)], .cells [.sl 2 3 0 so1.length], .fixed (so1.flatMap cel56), .cells [vi b4x0, .d (L58 b4x1)]] (by kernel_rfl) (by kernel_rfl) ?_
        refine awp_block ?_
        refine awp_loop (n := fuel) ?_
        refine awpN_ind (fun n (c7 : Int × (List S_api_Span)) => F80L2 b1x0 b1x1 n c7) o6 (fun (c7 : Int × (List S_api_Span)) => [(0, .yld 0), (4, vi c7.1)]) (fun (c7 : Int × (List S_api_Span)) => [.loop (some none) [34, 35] asn51x0 bdy51x0 78 [(1, .ref 1 0), (4, .ref 2 0)], .cells [vi b1x0, .d (L58 b1x1)], .cells [.sl 2 3 0 c7.2.length], .fixed (c7.2.flatMap cel56), .cells [vi b4x0, .d (L58 b4x1)]]) (fun _ => rfl) ?_ fuel ((w64 ((b4x1.length : Int) - 1)), so1) h
        clear h
        intro n8 c7 h hrn8
        change F80L2 b1x0 b1x1 (n8 + 1) c7 = some o6 at h
        rw [F80L2] at h
        refine awp_seq ?_
        refine awp_sreg tt_ok (ks := [0, 4, 25]) (hs := []) [(0, .yld 0), (4, vi c7.1), (25, vb (decide (c7.1 > 0)))] [.loop (some none) [34, 35] asn51x0 bdy51x0 78 [(1, .ref 1 0), (4, .ref 2 0)], .cells [vi b1x0, .d (L58 b1x1)], .cells [.sl 2 3 0 c7.2.length], .fixed (c7.2.flatMap cel56), .cells [vi b4x0, .d (L58 b4x1)]] [] (by kernel_rfl) trivial ?_
        refine awp_cond (b := (decide (c7.1 > 0))) (by kernel_rfl) (fun hb9 => ?_) (fun hb9 => ?_)
        · rw [if_pos hb9] at h
          refine awp_skip ?_
          show awp _ _ _ _ _ _ _ _
          refine awp_seq ?_
          refine awp_block ?_
          obtain ⟨x10, hx10, h⟩ := Option.bind_eq_some_iff.1 h
          refine awp_sreg tt_ok (ks := [0, 4, 33]) (hs := [.no, .no, .no, .no, .hcall [(0, false), (1, false), (2, false), (3, false)] (vb true) [.loop (some none) [34, 35] asn51x0 bdy51x0 78 [(1, .ref 1 0), (4, .ref 2 0)], .cells [vi b1x0, .d (L58 b1x1)], .cells [.sl 2 3 0 x10.length], .fixed (x10.flatMap cel56)]]) [(0, .yld 0), (4, vi c7.1), (33, vb false)] [.loop (some none) [34, 35] asn51x0 bdy51x0 78 [(1, .ref 1 0), (4, .ref 2 0)], .cells [vi b1x0, .d (L58 b1x1)], .cells [.sl 2 3 0 x10.length], .fixed (x10.flatMap cel56), .cells [vi b4x0, .d (L58 b4x1)]] [YCall Try.prog [.yld 0, vi c7.1, vi (w64 (c7.1 - 1))] [.loop (some none) [34, 35] asn51x0 bdy51x0 78 [(1, .ref 1 0), (4, .ref 2 0)], .cells [vi b1x0, .d (L58 b1x1)], .cells [.sl 2 3 0 c7.2.length], .fixed (c7.2.flatMap cel56)] (vb true) [.loop (some none) [34, 35] asn51x0 bdy51x0 78 [(1, .ref 1 0), (4, .ref 2 0)], .cells [vi b1x0, .d (L58 b1x1)], .cells [.sl 2 3 0 x10.length], .fixed (x10.flatMap cel56)]] (by kernel_rfl) (ct51r hx10) ?_
          refine awp_cond (b := false) (by kernel_rfl) (fun hb => absurd hb (by decide)) (fun hb => ?_)
          refine awp_skip ?_
          show awp _ _ _ _ _ _ _ _
          refine awp_region (T' := [(0, .yld 0), (4, vi (w64 (c7.1 - 1)))]) (H' := [.loop (some none) [34, 35] asn51x0 bdy51x0 78 [(1, .ref 1 0), (4, .ref 2 0)], .cells [vi b1x0, .d (L58 b1x1)], .cells [.sl 2 3 0 x10.length], .fixed (x10.flatMap cel56), .cells [vi b4x0, .d (L58 b4x1)]]) (ps := []) tt_ok (ks := [0, 4]) (hs := []) (by kernel_rfl) trivial ?_
          exact awpN_wk 5 [0, 4] (by kernel_rfl) _ _ (by kernel_rfl) (by kernel_rfl) (hrn8 ((w64 (c7.1 - 1)), x10) h)
        · rw [if_neg (ntrue hb9)] at h
          refine awp_exit ?_
          obtain rfl := Option.some.inj h
          exact Sel.mk [0, 1, 2, 3, 4] [] (by kernel_rfl) (by kernel_rfl) (by kernel_rfl) OutQ.norm
      · intro e T H hq
        cases o6 with
        | inl ro6 =>
          obtain ⟨rfl, rfl, rfl⟩ := hq
          rw [outK_inl] at h
          obtain rfl := Option.some.inj h
          exact (main_retS [0, 1, 2, 3, 4] (.tup []) (by kernel_rfl) (by kernel_rfl) (by kernel_rfl) (by kernel_rfl))
        | inr so6 =>
          obtain ⟨rfl, rfl, rfl⟩ := hq
          rw [outK_inr] at h
          obtain rfl := Option.some.inj h
          exact (main_retN [0, 1, 2, 3, 4] (.tup []) (by kernel_rfl) (by kernel_rfl) (by kernel_rfl) (by kernel_rfl))

-- (hachure/carve.row).bounds.1 P
def F76  (p_s : S_api_Span) : Option (Bool) :=
  some (decide (p_s.Lo > p_s.Hi))

set_option maxRecDepth 100000 in
theorem ct76  {p_s : S_api_Span} {res : Bool} (h : F76 p_s = some res) : PCall Try.prog 76 [(.agg [(di p_s.Lo), (di p_s.Hi)])] (vb res) := by
  refine PCall.of_awp tt_ok (N := 8) Try.func76 rfl (by kernel_rfl) rfl (Nat.le_of_ble_eq_true rfl) rfl ?_
  unfold F76 at h
  refine awp_sreg tt_ok (ks := [1]) (hs := []) [(1, .ref 0 0)] [.cells [vi p_s.Lo, vi p_s.Hi]] [] (by kernel_rfl) trivial ?_
  refine awp_sreg tt_ok (ks := [2]) (hs := []) [(2, vb (decide (p_s.Lo > p_s.Hi)))] [.cells [vi p_s.Lo, vi p_s.Hi]] [] (by kernel_rfl) trivial ?_
  obtain rfl := Option.some.inj h
  refine awp_wk 1 [2] (by kernel_rfl) [(2, vb (decide (p_s.Lo > p_s.Hi)))] [.cells [vi p_s.Lo, vi p_s.Hi]] (by kernel_rfl) (by kernel_rfl) ?_
  exact awp_ret (main_ret (by kernel_rfl))

-- slices.IndexFunc...hachure/api.Span.hachure/api.Span. H
def F81L1 (a0 : List S_api_Span) : Nat → Int → Option ((Int) ⊕ (Unit))
  | 0, _ => none
  | n3 + 1, c2 => if (decide (c2 < (a0.length : Int))) then ((idx a0 c2).bind fun x5 => (F76 x5).bind fun x6 => if x6 then (some (.inl c2)) else (F81L1 a0 n3 (w64 (c2 + 1)))) else (some (.inr ()))

def F81 (fuel : Nat)  (a0 : List S_api_Span) : Option (Int) :=
  (F81L1 a0 fuel 0).bind fun o1 => outK o1 (fun (ro1 : Int) => some ro1) (fun (so1 : Unit) => some (-1))

set_option maxRecDepth 100000 in
theorem ct81 {fuel : Nat}  {a0 : List S_api_Span} {res : Int} (h : F81 fuel a0 = some res) : HCall Try.prog 81 [.sl 2 0 0 a0.length, .fn (.func 76) [] []] [.fixed (a0.flatMap cel56)] (vi res) [.fixed (a0.flatMap cel56)] := by
  refine HCall.of_awpS tt_ok (N := 19) (fl := 1) Try.func81 rfl (by kernel_rfl) rfl rfl (Nat.le_of_ble_eq_true rfl) ?_
  unfold F81 at h
  refine awp_sreg tt_ok (ks := [0, 1]) (hs := []) [(0, .sl 2 0 0 a0.length), (1, .fn (.func 76) [] [])] [.fixed (a0.flatMap cel56)] [] (by kernel_rfl) trivial ?_
  refine awp_seq ?_
  refine awp_sreg tt_ok (ks := [0, 1, 7, 8]) (hs := []) [(0, .sl 2 0 0 a0.length), (1, .fn (.func 76) [] []), (7, vi (a0.length : Int)), (8, vi 0)] [.fixed (a0.flatMap cel56)] [] (by kernel_rfl) trivial ?_
  obtain ⟨o1, ho1, h⟩ := Option.bind_eq_some_iff.1 h
  refine awp_cut1 (OutQ (fun (ro1 : Int) => [(4, vi ro1)]) (fun (ro1 : Int) => [.fixed (a0.flatMap cel56)]) (fun (so1 : Unit) => []) (fun (so1 : Unit) => [.fixed (a0.flatMap cel56)]) o1) ?_ ?_
  · clear h
    have h := ho1
    clear ho1
    refine awp_selQ ?_
    refine awp_wk 1 [0, 1, 7, 8] (by kernel_rfl) [(0, .sl 2 0 0 a0.length), (1, .fn (.func 76) [] []), (7, vi (a0.length : Int)), (8, vi 0)] [.fixed (a0.flatMap cel56)] (by kernel_rfl) (by kernel_rfl) ?_
    refine awp_block ?_
    refine awp_loop (n := fuel) ?_
    refine awpN_ind (fun n (c2 : Int) => F81L1 a0 n c2) o1 (fun (c2 : Int) => [(0, .sl 2 0 0 a0.length), (1, .fn (.func 76) [] []), (7, vi (a0.length : Int)), (8, vi c2)]) (fun (c2 : Int) => [.fixed (a0.flatMap cel56)]) (fun _ => rfl) ?_ fuel 0 h
    clear h
    intro n3 c2 h hrn3
    change F81L1 a0 (n3 + 1) c2 = some o1 at h
    rw [F81L1] at h
    refine awp_sreg tt_ok (ks := [0, 1, 7, 8, 9]) (hs := []) [(0, .sl 2 0 0 a0.length), (1, .fn (.func 76) [] []), (7, vi (a0.length : Int)), (8, vi c2), (9, vb (decide (c2 < (a0.length : Int))))] [.fixed (a0.flatMap cel56)] [] (by kernel_rfl) trivial ?_
    refine awp_seq ?_
    refine awp_cond (b := (decide (c2 < (a0.length : Int)))) (by kernel_rfl) (fun hb4 => ?_) (fun hb4 => ?_)
    · rw [if_pos hb4] at h
      refine awp_skip ?_
      show awp _ _ _ _ _ _ _ _
      refine awp_seq ?_
      refine awp_block ?_
      refine awp_sreg tt_ok (ks := [0, 1, 5, 7, 8]) (hs := []) [(0, .sl 2 0 0 a0.length), (1, .fn (.func 76) [] []), (5, vi c2), (7, vi (a0.length : Int)), (8, vi c2)] [.fixed (a0.flatMap cel56)] [] (by kernel_rfl) trivial ?_
      obtain ⟨x5, hx5, h⟩ := Option.bind_eq_some_iff.1 h
      obtain ⟨x6, hx6, h⟩ := Option.bind_eq_some_iff.1 h
      refine awp_sreg tt_ok (ks := [0, 1, 5, 7, 8, 16]) (hs := [.no, .no, .no, .no, .vals (([(di x5.Lo), (di x5.Hi)] : List D).map .d), .call [(.agg [(di x5.Lo), (di x5.Hi)])] (vb x6)]) [(0, .sl 2 0 0 a0.length), (1, .fn (.func 76) [] []), (5, vi c2), (7, vi (a0.length : Int)), (8, vi c2), (16, vb x6)] [.fixed (a0.flatMap cel56)] [(0 ≤ c2 ∧ c2 < (a0.length : Int)), LoadOk ((a0.flatMap cel56).map .d) (0 + c2.toNat * 2) 2 (([(di x5.Lo), (di x5.Hi)] : List D).map .d), PCall Try.prog 76 [(.agg [(di x5.Lo), (di x5.Hi)])] (vb x6)] (by kernel_rfl) (And.intro (idx_bounds hx5) (And.intro (loadOk (j := 0) (es := ([(di x5.Lo), (di x5.Hi)] : List D)) cel56_len hx5 rfl rfl rfl (Nat.le_of_ble_eq_true rfl)) (ct76 hx6))) ?_
      refine awp_cond (b := x6) (by kernel_rfl) (fun hb7 => ?_) (fun hb7 => ?_)
      · rw [if_pos hb7] at h
        refine awp_sreg tt_ok (ks := [4]) (hs := []) [(4, vi c2)] [.fixed (a0.flatMap cel56)] [] (by kernel_rfl) trivial ?_
        obtain rfl := Option.some.inj h
        refine awp_wk 1 [4] (by kernel_rfl) [(4, vi c2)] [.fixed (a0.flatMap cel56)] (by kernel_rfl) (by kernel_rfl) ?_
        exact awp_ret (Sel.mk [0] [4] (by kernel_rfl) (by kernel_rfl) (by kernel_rfl) OutQ.ret)
      · rw [if_neg (ntrue hb7)] at h
        refine awp_skip ?_
        show awp _ _ _ _ _ _ _ _
        refine awp_region (T' := [(0, .sl 2 0 0 a0.length), (1, .fn (.func 76) [] []), (7, vi (a0.length : Int)), (8, vi (w64 (c2 + 1)))]) (H' := [.fixed (a0.flatMap cel56)]) (ps := []) tt_ok (ks := [0, 1, 7, 8]) (hs := []) (by kernel_rfl) trivial ?_
        exact awpN_wk 1 [0, 1, 7, 8] (by kernel_rfl) _ _ (by kernel_rfl) (by kernel_rfl) (hrn3 (w64 (c2 + 1)) h)
    · rw [if_neg (ntrue hb4)] at h
      refine awp_exit ?_
      obtain rfl := Option.some.inj h
      exact Sel.mk [0] [] (by kernel_rfl) (by kernel_rfl) (by kernel_rfl) OutQ.norm
  · intro e T H hq
    cases o1 with
    | inl ro1 =>
      obtain ⟨rfl, rfl, rfl⟩ := hq
      rw [outK_inl] at h
      obtain rfl := Option.some.inj h
      exact (main_retS [0] (vi ro1) (by kernel_rfl) (by kernel_rfl) (by kernel_rfl) (by kernel_rfl))
    | inr so1 =>
      obtain ⟨rfl, rfl, rfl⟩ := hq
      rw [outK_inr] at h
      show awp _ _ _ _ _ _ _ _
      refine awp_sreg tt_ok (ks := [4]) (hs := []) [(4, vi (-1))] [.fixed (a0.flatMap cel56)] [] (by kernel_rfl) trivial ?_
      obtain rfl := Option.some.inj h
      refine awp_wk 1 [4] (by kernel_rfl) [(4, vi (-1))] [.fixed (a0.flatMap cel56)] (by kernel_rfl) (by kernel_rfl) ?_
      exact awp_ret (main_retS [0] (vi (-1)) (by kernel_rfl) (by kernel_rfl) (by kernel_rfl) (by kernel_rfl))

-- slices.ContainsFunc...hachure/api.Span.hachure/api.Span. H
def F75 (fuel : Nat)  (a0 : List S_api_Span) : Option (Bool) :=
  (F81 fuel a0).bind fun x1 => some (decide (x1 ≥ 0))

set_option maxRecDepth 100000 in
theorem ct75 {fuel : Nat}  {a0 : List S_api_Span} {res : Bool} (h : F75 fuel a0 = some res) : HCall Try.prog 75 [.sl 2 0 0 a0.length, .fn (.func 76) [] []] [.fixed (a0.flatMap cel56)] (vb res) [.fixed (a0.flatMap cel56)] := by
  refine HCall.of_awpS tt_ok (N := 9) (fl := 1) Try.func75 rfl (by kernel_rfl) rfl rfl (Nat.le_of_ble_eq_true rfl) ?_
  unfold F75 at h
  refine awp_sreg tt_ok (ks := [0, 1]) (hs := []) [(0, .sl 2 0 0 a0.length), (1, .fn (.func 76) [] [])] [.fixed (a0.flatMap cel56)] [] (by kernel_rfl) trivial ?_
  obtain ⟨x1, hx1, h⟩ := Option.bind_eq_some_iff.1 h
  refine awp_sreg tt_ok (ks := [4]) (hs := [.no, .no, .hcall [(0, false)] (vi x1) [.fixed (a0.flatMap cel56)]]) [(4, vb (decide (x1 ≥ 0)))] [.fixed (a0.flatMap cel56)] [HCall Try.prog 81 [.sl 2 0 0 a0.length, .fn (.func 76) [] []] [.fixed (a0.flatMap cel56)] (vi x1) [.fixed (a0.flatMap cel56)]] (by kernel_rfl) (ct81 hx1) ?_
  obtain rfl := Option.some.inj h
  refine awp_wk 1 [4] (by kernel_rfl) [(4, vb (decide (x1 ≥ 0)))] [.fixed (a0.flatMap cel56)] (by kernel_rfl) (by kernel_rfl) ?_
  exact awp_ret (main_retS [0] (vb (decide (x1 ≥ 0))) (by kernel_rfl) (by kernel_rfl) (by kernel_rfl) (by kernel_rfl))

-- (hachure/carve.row).bounds P
def F51L1 (p_x : S_carve_row) : Nat → (Int × (List S_api_Span)) → Option (((List S_api_Span) × Bool) ⊕ ((List S_api_Span)))
  | 0, _ => none
  | n4 + 1, c3 => if (decide (c3.1 < (p_x.CvRow.Points.length : Int))) then ((idx p_x.CvRow.Points c3.1).bind fun x6 => (idx c3.2 c3.1).bind fun x7 => F51L1 p_x n4 ((w64 (c3.1 + 1)), (c3.2.set c3.1.toNat (⟨x6.Lo, x6.Hi⟩ : S_api_Span)))) else (some (.inr c3.2))

def F51 (fuel : Nat)  (p_x : S_carve_row) : Option ((List S_api_Span) × Bool) :=
  (need (0 ≤ (p_x.CvRow.Points.length : Int) ∧ (p_x.CvRow.Points.length : Int) * 16 ≤ 140737488355328 ∧ (p_x.CvRow.Points.length : Int) ≤ 9223372036854775807)).bind fun x1 => (F51L1 p_x fuel (0, (List.replicate (p_x.CvRow.Points.length : Int).toNat ((⟨0, 0⟩ : S_api_Span) : S_api_Span)))).bind fun o2 => outK o2 (fun (ro2 : (List S_api_Span) × Bool) => some ro2) (fun (so2 : (List S_api_Span)) => (F74v1 p_x).bind fun x8 => (F80 fuel p_x.CvRow.Steep p_x.CvRow.Points so2 x8.1 x8.2).bind fun x9 => (F75 fuel x9).bind fun x10 => some (x9, (!x10)))

set_option maxRecDepth 100000 in
theorem ct51 {fuel : Nat}  {p_x : S_carve_row} {res : (List S_api_Span) × Bool} (h : F51 fuel p_x = some res) : PCall Try.prog 51 [(.agg [(di p_x.CvRow.Steep), (L58 p_x.CvRow.Points)])] (.tup [.d (L56 res.1), vb res.2]) := by
  refine PCall.of_awp tt_ok (N := 78) Try.func51 rfl (by kernel_rfl) rfl (Nat.le_of_ble_eq_true rfl) rfl ?_
  unfold F51 at h
  refine awp_sreg tt_ok (ks := [1]) (hs := []) [(1, .ref 0 0)] [.cells [vi p_x.CvRow.Steep, .d (L58 p_x.CvRow.Points)]] [] (by kernel_rfl) trivial ?_
  obtain ⟨x1, hx1, h⟩ := Option.bind_eq_some_iff.1 h
  refine awp_sreg tt_ok (ks := [1, 4]) (hs := [.no, .no, .no, .no, .list (List.replicate (p_x.CvRow.Points.length : Int).toNat ((⟨0, 0⟩ : S_api_Span) : S_api_Span)).length ((List.replicate (p_x.CvRow.Points.length : Int).toNat ((⟨0, 0⟩ : S_api_Span) : S_api_Span)).flatMap cel56)]) [(1, .ref 0 0), (4, .ref 2 0)] [.cells [vi p_x.CvRow.Steep, .d (L58 p_x.CvRow.Points)], .data ((List.replicate (p_x.CvRow.Points.length : Int).toNat ((⟨0, 0⟩ : S_api_Span) : S_api_Span)).flatMap cel56), .cells [.sl 2 1 0 (List.replicate (p_x.CvRow.Points.length : Int).toNat ((⟨0, 0⟩ : S_api_Span) : S_api_Span)).length]] [MakeOk (p_x.CvRow.Points.length : Int) (p_x.CvRow.Points.length : Int) (List.replicate (p_x.CvRow.Points.length : Int).toNat ((⟨0, 0⟩ : S_api_Span) : S_api_Span)).length 16 [.int .i64 0, .int .i64 0] ((List.replicate (p_x.CvRow.Points.length : Int).toNat ((⟨0, 0⟩ : S_api_Span) : S_api_Span)).flatMap cel56)] (by kernel_rfl) (makeOk rfl (need_of hx1)) ?_
  refine awp_seq ?_
  refine awp_sreg tt_ok (ks := [1, 4, 16, 17, 18]) (hs := []) [(1, .ref 0 0), (4, .ref 2 0), (16, .d (L58 p_x.CvRow.Points)), (17, vi (p_x.CvRow.Points.length : Int)), (18, vi 0)] [.cells [vi p_x.CvRow.Steep, .d (L58 p_x.CvRow.Points)], .data ((List.replicate (p_x.CvRow.Points.length : Int).toNat ((⟨0, 0⟩ : S_api_Span) : S_api_Span)).flatMap cel56), .cells [.sl 2 1 0 (List.replicate (p_x.CvRow.Points.length : Int).toNat ((⟨0, 0⟩ : S_api_Span) : S_api_Span)).length]] [] (by kernel_rfl) trivial ?_
  obtain ⟨o2, ho2, h⟩ := Option.bind_eq_some_iff.1 h
  refine awp_cut1 (OutQ (fun (ro2 : (List S_api_Span) × Bool) => [(2, .d (L56 ro2.1)), (3, vb ro2.2)]) (fun (ro2 : (List S_api_Span) × Bool) => []) (fun (so2 : (List S_api_Span)) => [(1, .ref 0 0), (4, .ref 2 0)]) (fun (so2 : (List S_api_Span)) => [.cells [vi p_x.CvRow.Steep, .d (L58 p_x.CvRow.Points)], .data (so2.flatMap cel56), .cells [.sl 2 1 0 so2.length]]) o2) ?_ ?_
  · clear h
    have h := ho2
    clear ho2
    refine awp_selQ ?_
    refine awp_wk 3 [1, 4, 16, 17, 18] (by kernel_rfl) [(1, .ref 0 0), (4, .ref 2 0), (16, .d (L58 p_x.CvRow.Points)), (17, vi (p_x.CvRow.Points.length : Int)), (18, vi 0)] [.cells [vi p_x.CvRow.Steep, .d (L58 p_x.CvRow.Points)], .data ((List.replicate (p_x.CvRow.Points.length : Int).toNat ((⟨0, 0⟩ : S_api_Span) : S_api_Span)).flatMap cel56), .cells [.sl 2 1 0 (List.replicate (p_x.CvRow.Points.length : Int).toNat ((⟨0, 0⟩ : S_api_Span) : S_api_Span)).length]] (by kernel_rfl) (by kernel_rfl) ?_
    refine awp_block ?_
    refine awp_loop (n := fuel) ?_
    refine awpN_ind (fun n (c3 : Int × (List S_api_Span)) => F51L1 p_x n c3) o2 (fun (c3 : Int × (List S_api_Span)) => [(1, .ref 0 0), (4, .ref 2 0), (16, .d (L58 p_x.CvRow.Points)), (17, vi (p_x.CvRow.Points.length : Int)), (18, vi c3.1)]) (fun (c3 : Int × (List S_api_Span)) => [.cells [vi p_x.CvRow.Steep, .d (L58 p_x.CvRow.Points)], .data (c3.2.flatMap cel56), .cells [.sl 2 1 0 c3.2.length]]) (fun _ => rfl) ?_ fuel (0, (List.replicate (p_x.CvRow.Points.length : Int).toNat ((⟨0, 0⟩ : S_api_Span) : S_api_Span))) h
    clear h
    intro n4 c3 h hrn4
    change F51L1 p_x (n4 + 1) c3 = some o2 at h
    rw [F51L1] at h
    refine awp_sreg tt_ok (ks := [1, 4, 16, 17, 18, 19]) (hs := []) [(1, .ref 0 0), (4, .ref 2 0), (16, .d (L58 p_x.CvRow.Points)), (17, vi (p_x.CvRow.Points.length : Int)), (18, vi c3.1), (19, vb (decide (c3.1 < (p_x.CvRow.Points.length : Int))))] [.cells [vi p_x.CvRow.Steep, .d (L58 p_x.CvRow.Points)], .data (c3.2.flatMap cel56), .cells [.sl 2 1 0 c3.2.length]] [] (by kernel_rfl) trivial ?_
    refine awp_seq ?_
    refine awp_cond (b := (decide (c3.1 < (p_x.CvRow.Points.length : Int)))) (by kernel_rfl) (fun hb5 => ?_) (fun hb5 => ?_)
    · rw [if_pos hb5] at h
      refine awp_skip ?_
      show awp _ _ _ _ _ _ _ _
      refine awp_seq ?_
      refine awp_block ?_
      obtain ⟨x6, hx6, h⟩ := Option.bind_eq_some_iff.1 h
      refine awp_sreg tt_ok (ks := [1, 4, 5, 6, 16, 17, 18]) (hs := [.no, .cells (cel58 x6)]) [(1, .ref 0 0), (4, .ref 2 0), (5, vi c3.1), (6, .ref 3 0), (16, .d (L58 p_x.CvRow.Points)), (17, vi (p_x.CvRow.Points.length : Int)), (18, vi c3.1)] [.cells [vi p_x.CvRow.Steep, .d (L58 p_x.CvRow.Points)], .data (c3.2.flatMap cel56), .cells [.sl 2 1 0 c3.2.length], .cells [vi x6.Board, vi x6.Lo, vi x6.Hi]] [IX58 p_x.CvRow.Points c3.1 x6] (by kernel_rfl) (idxOk cel58_len hx6) ?_
      obtain ⟨x7, hx7, h⟩ := Option.bind_eq_some_iff.1 h
      refine awp_region (T' := [(1, .ref 0 0), (4, .ref 2 0), (16, .d (L58 p_x.CvRow.Points)), (17, vi (p_x.CvRow.Points.length : Int)), (18, vi c3.1)]) (H' := [.cells [vi p_x.CvRow.Steep, .d (L58 p_x.CvRow.Points)], .data ((c3.2.set c3.1.toNat (⟨x6.Lo, x6.Hi⟩ : S_api_Span)).flatMap cel56), .cells [.sl 2 1 0 c3.2.length], .cells [vi x6.Board, vi x6.Lo, vi x6.Hi]]) (ps := [(0 ≤ c3.1 ∧ c3.1 < (c3.2.length : Int)), StoreOk ((c3.2.flatMap cel56).map .d) (0 + c3.1.toNat * 2) (([(di x6.Lo), (di x6.Hi)] : List D).map .d) (((c3.2.set c3.1.toNat (⟨x6.Lo, x6.Hi⟩ : S_api_Span)).flatMap cel56).map .d)]) tt_ok (ks := [1, 4, 16, 17, 18]) (hs := [.no, .no, .no, .no, .no, .no, .no, .no, .cells ((c3.2.set c3.1.toNat (⟨x6.Lo, x6.Hi⟩ : S_api_Span)).flatMap cel56)]) (by kernel_rfl) (And.intro (idx_bounds hx7) (storeOk (j := 0) (us := ([(di x6.Lo), (di x6.Hi)] : List D)) (y := (⟨x6.Lo, x6.Hi⟩ : S_api_Span)) cel56_len hx7 rfl rfl (Nat.le_of_ble_eq_true rfl))) ?_
      show awp _ _ _ _ _ _ _ _
      refine awp_region (T' := [(1, .ref 0 0), (4, .ref 2 0), (16, .d (L58 p_x.CvRow.Points)), (17, vi (p_x.CvRow.Points.length : Int)), (18, vi (w64 (c3.1 + 1)))]) (H' := [.cells [vi p_x.CvRow.Steep, .d (L58 p_x.CvRow.Points)], .data ((c3.2.set c3.1.toNat (⟨x6.Lo, x6.Hi⟩ : S_api_Span)).flatMap cel56), .cells [.sl 2 1 0 c3.2.length], .cells [vi x6.Board, vi x6.Lo, vi x6.Hi]]) (ps := []) tt_ok (ks := [1, 4, 16, 17, 18]) (hs := []) (by kernel_rfl) trivial ?_
      exact awpN_wk 3 [1, 4, 16, 17, 18] (by kernel_rfl) _ _ (by kernel_rfl) (by simp only [List.length_set]; kernel_rfl) (hrn4 ((w64 (c3.1 + 1)), (c3.2.set c3.1.toNat (⟨x6.Lo, x6.Hi⟩ : S_api_Span))) h)
    · rw [if_neg (ntrue hb5)] at h
      refine awp_exit ?_
      obtain rfl := Option.some.inj h
      exact Sel.mk [0, 1, 2] [1, 4] (by kernel_rfl) (by kernel_rfl) (by kernel_rfl) OutQ.norm
  · intro e T H hq
    cases o2 with
    | inl ro2 =>
      obtain ⟨rfl, rfl, rfl⟩ := hq
      rw [outK_inl] at h
      obtain rfl := Option.some.inj h
      exact main_ret (by kernel_rfl)
    | inr so2 =>
      obtain ⟨rfl, rfl, rfl⟩ := hq
      rw [outK_inr] at h
      show awp _ _ _ _ _ _ _ _
      refine awp_seq ?_
      obtain ⟨x8, hx8, h⟩ := Option.bind_eq_some_iff.1 h
      refine awp_sreg tt_ok (ks := [1, 4, 33]) (hs := [.no, .hcall [] (.fn (.func 80) [] [.ref 0 0]) [.cells [vi x8.1, .d (L58 x8.2)]]]) [(1, .ref 0 0), (4, .ref 2 0), (33, .fn (.func 80) [] [.ref 3 0])] [.cells [vi p_x.CvRow.Steep, .d (L58 p_x.CvRow.Points)], .data (so2.flatMap cel56), .cells [.sl 2 1 0 so2.length], .cells [vi x8.1, .d (L58 x8.2)]] [HCall Try.prog 74 [.d (.agg [(di p_x.CvRow.Steep), (L58 p_x.CvRow.Points)])] [] (.fn (.func 80) [] [.ref 0 0]) [.cells [vi x8.1, .d (L58 x8.2)]]] (by kernel_rfl) (ct74v1 hx8) ?_
      refine awp_block ?_
      obtain ⟨x9, hx9, h⟩ := Option.bind_eq_some_iff.1 h
      refine awp_range (ks := [1, 4]) (ids := [(4, false), (0, false), (2, false), (1, true), (3, false)]) (r := .tup []) (Hc := [.loop (some none) [34, 35] asn51x0 bdy51x0 78 [(1, .ref 1 0), (4, .ref 2 0)], .cells [vi p_x.CvRow.Steep, .d (L58 p_x.CvRow.Points)], .cells [.sl 2 3 0 x9.length], .fixed (x9.flatMap cel56), .cells [vi x8.1, .d (L58 x8.2)]]) none [(1, .ref 0 0), (4, .ref 2 0), (33, .fn (.func 80) [] [.ref 3 0])] [.cells [vi p_x.CvRow.Steep, .d (L58 p_x.CvRow.Points)], .data (x9.flatMap cel56), .cells [.sl 2 1 0 x9.length], .cells [vi x8.1, .d (L58 x8.2)], .data []] [HCall Try.prog 80 [.yld 0, .ref 4 0] [.loop (some none) [34, 35] asn51x0 bdy51x0 78 [(1, .ref 1 0), (4, .ref 2 0)], .cells [vi p_x.CvRow.Steep, .d (L58 p_x.CvRow.Points)], .cells [.sl 2 3 0 so2.length], .fixed (so2.flatMap cel56), .cells [vi x8.1, .d (L58 x8.2)]] (.tup []) [.loop (some none) [34, 35] asn51x0 bdy51x0 78 [(1, .ref 1 0), (4, .ref 2 0)], .cells [vi p_x.CvRow.Steep, .d (L58 p_x.CvRow.Points)], .cells [.sl 2 3 0 x9.length], .fixed (x9.flatMap cel56), .cells [vi x8.1, .d (L58 x8.2)]]] rfl (by kernel_rfl) (ct80 hx9) (fun _ => ?_) (fun c hc => absurd hc (by simp))
      show awp _ _ _ _ _ _ _ _
      obtain ⟨x10, hx10, h⟩ := Option.bind_eq_some_iff.1 h
      refine awp_seq (awp_any (T' := [(2, .sl 2 1 0 x9.length), (3, vb (!x10))]) (H' := [.cells [vi p_x.CvRow.Steep, .d (L58 p_x.CvRow.Points)], .data (x9.flatMap cel56), .cells [.sl 2 1 0 x9.length], .cells [vi x8.1, .d (L58 x8.2)], .data []]) (ps := [HCall Try.prog 75 [.sl 2 0 0 x9.length, .fn (.func 76) [] []] [.fixed (x9.flatMap cel56)] (vb x10) [.fixed (x9.flatMap cel56)]]) tt_ok mixed (ks := [2, 3]) (hs := [.no, .no, .hcall [(1, true)] (vb x10) [.fixed (x9.flatMap cel56)]]) (m := 5) (mid := [2, 3, 77]) (by kernel_rfl) (ct75 hx10) ?_)
      show awp _ _ _ _ _ _ _ _
      obtain rfl := Option.some.inj h
      refine awp_wk 5 [2, 3] (by kernel_rfl) [(2, .sl 2 1 0 x9.length), (3, vb (!x10))] [.cells [vi p_x.CvRow.Steep, .d (L58 p_x.CvRow.Points)], .data (x9.flatMap cel56), .cells [.sl 2 1 0 x9.length], .cells [vi x8.1, .d (L58 x8.2)], .data []] (by kernel_rfl) (by kernel_rfl) ?_
      refine awp_freeze 2 1 (x9.flatMap cel56) (.sl 2 1 0 x9.length) (.d (L56 x9)) _ _ (ps := [(x9.flatMap cel56).length = x9.length * 2]) (by kernel_rfl) (by kernel_rfl) (by kernel_rfl) (flatMap_len cel56 2 cel56_len x9) rfl rfl ?_
      refine awp_wk 5 [2, 3] (by kernel_rfl) [(2, .d (L56 x9)), (3, vb (!x10))] [.cells [vi p_x.CvRow.Steep, .d (L58 p_x.CvRow.Points)], .data (([] : List S_api_Span).flatMap cel56), .cells [.top], .cells [vi x8.1, .d (L58 x8.2)], .data []] (by kernel_rfl) (by kernel_rfl) ?_
      exact awp_ret (main_ret (by kernel_rfl))

-- (hachure/carve.row).some P
def F54 (fuel : Nat)  (p_x : S_carve_row) : Option (Bool) :=
  (F51 fuel p_x).bind fun x1 => some x1.2

set_option maxRecDepth 100000 in
theorem ct54 {fuel : Nat}  {p_x : S_carve_row} {res : Bool} (h : F54 fuel p_x = some res) : PCall Try.prog 54 [(.agg [(di p_x.CvRow.Steep), (L58 p_x.CvRow.Points)])] (vb res) := by
  refine PCall.of_awp tt_ok (N := 11) Try.func54 rfl (by kernel_rfl) rfl (Nat.le_of_ble_eq_true rfl) rfl ?_
  unfold F54 at h
  refine awp_sreg tt_ok (ks := [1]) (hs := []) [(1, .ref 0 0)] [.cells [vi p_x.CvRow.Steep, .d (L58 p_x.CvRow.Points)]] [] (by kernel_rfl) trivial ?_
  obtain ⟨x1, hx1, h⟩ := Option.bind_eq_some_iff.1 h
  refine awp_sreg tt_ok (ks := [4]) (hs := [.no, .call [(.agg [(di p_x.CvRow.Steep), (L58 p_x.CvRow.Points)])] (.tup [.d (L56 x1.1), vb x1.2])]) [(4, vb x1.2)] [.cells [vi p_x.CvRow.Steep, .d (L58 p_x.CvRow.Points)]] [PCall Try.prog 51 [(.agg [(di p_x.CvRow.Steep), (L58 p_x.CvRow.Points)])] (.tup [.d (L56 x1.1), vb x1.2])] (by kernel_rfl) (ct51 hx1) ?_
  refine awp_sreg tt_ok (ks := [2]) (hs := []) [(2, vb x1.2)] [.cells [vi p_x.CvRow.Steep, .d (L58 p_x.CvRow.Points)]] [] (by kernel_rfl) trivial ?_
  obtain rfl := Option.some.inj h
  refine awp_wk 1 [2] (by kernel_rfl) [(2, vb x1.2)] [.cells [vi p_x.CvRow.Steep, .d (L58 p_x.CvRow.Points)]] (by kernel_rfl) (by kernel_rfl) ?_
  exact awp_ret (main_ret (by kernel_rfl))

-- hachure/carve.Prevents P
def F21L2 (fuel : Nat) (p_r : S_api_CvRow) (c4 : Int) : Nat → (Int × (List S_api_CvPoint)) → Option ((Int × Int × Int) ⊕ (Unit))
  | 0, _ => none
  | n12 + 1, c11 => (sub p_r.Points c11.1 (w64 (c4 + 1))).bind fun x13 => (F54 fuel (⟨(⟨p_r.Steep, x13⟩ : S_api_CvRow)⟩ : S_carve_row)).bind fun x14 => if (!x14) then (some (.inl (c11.1, c4, 0))) else (F21L2 fuel p_r c4 n12 ((w64 (c11.1 - 1)), x13))

def F21L1 (fuel : Nat) (p_r : S_api_CvRow) : Nat → Int → Option ((Int × Int × Int) ⊕ (Unit))
  | 0, _ => none
  | n5 + 1, c4 => if (decide (c4 < (p_r.Points.length : Int))) then ((sub p_r.Points 0 (w64 (c4 + 1))).bind fun x7 => (F54 fuel (⟨(⟨p_r.Steep, x7⟩ : S_api_CvRow)⟩ : S_carve_row)).bind fun x8 => if x8 then (F21L1 fuel p_r n5 (w64 (c4 + 1))) else ((F21L2 fuel p_r c4 fuel (c4, x7)).bind fun o10 => outK o10 (fun (ro10 : Int × Int × Int) => some (.inl ro10)) (fun (_ : Unit) => none))) else (some (.inr ()))

def F21 (fuel : Nat)  (p_r : S_api_CvRow) : Option (Int × Int × Int) :=
  (F16 fuel p_r).bind fun x1 => if (x1.2.2 != 0) then (some (0, 0, x1.2.2)) else ((F21L1 fuel p_r fuel 0).bind fun o3 => outK o3 (fun (ro3 : Int × Int × Int) => some ro3) (fun (so3 : Unit) => some (0, 0, 4)))

set_option maxRecDepth 100000 in
theorem ct21 {fuel : Nat}  {p_r : S_api_CvRow} {res : Int × Int × Int} (h : F21 fuel p_r = some res) : PCall Try.prog 21 [(.agg [(di p_r.Steep), (L58 p_r.Points)])] (.tup [vi res.1, vi res.2.1, vi res.2.2]) := by
  refine PCall.of_awp tt_ok (N := 49) Try.func21 rfl (by kernel_rfl) rfl (Nat.le_of_ble_eq_true rfl) rfl ?_
  unfold F21 at h
  refine awp_sreg tt_ok (ks := [1]) (hs := []) [(1, .ref 0 0)] [.cells [vi p_r.Steep, .d (L58 p_r.Points)]] [] (by kernel_rfl) trivial ?_
  refine awp_seq ?_
  obtain ⟨x1, hx1, h⟩ := Option.bind_eq_some_iff.1 h
  refine awp_sreg tt_ok (ks := [1, 4]) (hs := [.no, .call [(.agg [(di p_r.Steep), (L58 p_r.Points)])] (.tup [vi x1.1, vi x1.2.1, vi x1.2.2])]) [(1, .ref 0 0), (4, vi x1.2.2)] [.cells [vi p_r.Steep, .d (L58 p_r.Points)]] [PCall Try.prog 16 [(.agg [(di p_r.Steep), (L58 p_r.Points)])] (.tup [vi x1.1, vi x1.2.1, vi x1.2.2])] (by kernel_rfl) (ct16 hx1) ?_
  refine awp_sreg tt_ok (ks := [1, 4, 13]) (hs := []) [(1, .ref 0 0), (4, vi x1.2.2), (13, vb (x1.2.2 != 0))] [.cells [vi p_r.Steep, .d (L58 p_r.Points)]] [] (by kernel_rfl) trivial ?_
  refine awp_cond (b := (x1.2.2 != 0)) (by kernel_rfl) (fun hb2 => ?_) (fun hb2 => ?_)
  · rw [if_pos hb2] at h
    refine awp_sreg tt_ok (ks := [2, 3, 4]) (hs := []) [(2, vi 0), (3, vi 0), (4, vi x1.2.2)] [.cells [vi p_r.Steep, .d (L58 p_r.Points)]] [] (by kernel_rfl) trivial ?_
    obtain rfl := Option.some.inj h
    refine awp_wk 1 [2, 3, 4] (by kernel_rfl) [(2, vi 0), (3, vi 0), (4, vi x1.2.2)] [.cells [vi p_r.Steep, .d (L58 p_r.Points)]] (by kernel_rfl) (by kernel_rfl) ?_
    exact awp_ret (main_ret (by kernel_rfl))
  · rw [if_neg (ntrue hb2)] at h
    refine awp_skip ?_
    show awp _ _ _ _ _ _ _ _
    refine awp_seq ?_
    refine awp_sreg tt_ok (ks := [1, 17, 18]) (hs := []) [(1, .ref 0 0), (17, vi (p_r.Points.length : Int)), (18, vi 0)] [.cells [vi p_r.Steep, .d (L58 p_r.Points)]] [] (by kernel_rfl) trivial ?_
    obtain ⟨o3, ho3, h⟩ := Option.bind_eq_some_iff.1 h
    refine awp_cut1 (OutQ (fun (ro3 : Int × Int × Int) => [(2, vi ro3.1), (3, vi ro3.2.1), (4, vi ro3.2.2)]) (fun (ro3 : Int × Int × Int) => []) (fun (so3 : Unit) => []) (fun (so3 : Unit) => [.cells [vi p_r.Steep, .d (L58 p_r.Points)]]) o3) ?_ ?_
    · clear h
      have h := ho3
      clear ho3
      refine awp_selQ ?_
      refine awp_wk 1 [1, 17, 18] (by kernel_rfl) [(1, .ref 0 0), (17, vi (p_r.Points.length : Int)), (18, vi 0)] [.cells [vi p_r.Steep, .d (L58 p_r.Points)]] (by kernel_rfl) (by kernel_rfl) ?_
      refine awp_block ?_
      refine awp_loop (n := fuel) ?_
      refine awpN_ind (fun n (c4 : Int) => F21L1 fuel p_r n c4) o3 (fun (c4 : Int) => [(1, .ref 0 0), (17, vi (p_r.Points.length : Int)), (18, vi c4)]) (fun (c4 : Int) => [.cells [vi p_r.Steep, .d (L58 p_r.Points)]]) (fun _ => rfl) ?_ fuel 0 h
      clear h
      intro n5 c4 h hrn5
      change F21L1 fuel p_r (n5 + 1) c4 = some o3 at h
      rw [F21L1] at h
      refine awp_sreg tt_ok (ks := [1, 17, 18, 19]) (hs := []) [(1, .ref 0 0), (17, vi (p_r.Points.length : Int)), (18, vi c4), (19, vb (decide (c4 < (p_r.Points.length : Int))))] [.cells [vi p_r.Steep, .d (L58 p_r.Points)]] [] (by kernel_rfl) trivial ?_
      refine awp_seq ?_
      refine awp_cond (b := (decide (c4 < (p_r.Points.length : Int)))) (by kernel_rfl) (fun hb6 => ?_) (fun hb6 => ?_)
      · rw [if_pos hb6] at h
        refine awp_skip ?_
        show awp _ _ _ _ _ _ _ _
        refine awp_seq ?_
        refine awp_block ?_
        refine awp_sreg tt_ok (ks := [1, 3, 17, 18]) (hs := []) [(1, .ref 0 0), (3, vi c4), (17, vi (p_r.Points.length : Int)), (18, vi c4)] [.cells [vi p_r.Steep, .d (L58 p_r.Points)]] [] (by kernel_rfl) trivial ?_
        refine awp_sreg tt_ok (ks := [1, 3, 5, 17, 18]) (hs := []) [(1, .ref 0 0), (3, vi c4), (5, .ref 1 0), (17, vi (p_r.Points.length : Int)), (18, vi c4)] [.cells [vi p_r.Steep, .d (L58 p_r.Points)], .cells [vi p_r.Steep, .d (L58 p_r.Points)]] [] (by kernel_rfl) trivial ?_
        refine awp_seq ?_
        obtain ⟨x7, hx7, h⟩ := Option.bind_eq_some_iff.1 h
        refine awp_sreg tt_ok (ks := [1, 3, 5, 17, 18]) (hs := [.no, .no, .no, .no, .list x7.length (x7.flatMap cel58)]) [(1, .ref 0 0), (3, vi c4), (5, .ref 1 0), (17, vi (p_r.Points.length : Int)), (18, vi c4)] [.cells [vi p_r.Steep, .d (L58 p_r.Points)], .cells [vi p_r.Steep, .d (L58 x7)]] [SliceOk (p_r.Points.flatMap cel58) 3 p_r.Points.length 0 (w64 (c4 + 1)) x7.length (x7.flatMap cel58)] (by kernel_rfl) (sliceOk cel58_len hx7) ?_
        obtain ⟨x8, hx8, h⟩ := Option.bind_eq_some_iff.1 h
        refine awp_sreg tt_ok (ks := [1, 3, 5, 17, 18, 31]) (hs := [.no, .call [(.agg [(di p_r.Steep), (L58 x7)])] (vb x8)]) [(1, .ref 0 0), (3, vi c4), (5, .ref 1 0), (17, vi (p_r.Points.length : Int)), (18, vi c4), (31, vb x8)] [.cells [vi p_r.Steep, .d (L58 p_r.Points)], .cells [vi p_r.Steep, .d (L58 x7)]] [PCall Try.prog 54 [(.agg [(di p_r.Steep), (L58 x7)])] (vb x8)] (by kernel_rfl) (ct54 hx8) ?_
        refine awp_cond (b := x8) (by kernel_rfl) (fun hb9 => ?_) (fun hb9 => ?_)
        · rw [if_pos hb9] at h
          refine awp_exit ?_
          show awp _ _ _ _ _ _ _ _
          refine awp_region (T' := [(1, .ref 0 0), (17, vi (p_r.Points.length : Int)), (18, vi (w64 (c4 + 1)))]) (H' := [.cells [vi p_r.Steep, .d (L58 p_r.Points)], .cells [vi p_r.Steep, .d (L58 x7)]]) (ps := []) tt_ok (ks := [1, 17, 18]) (hs := []) (by kernel_rfl) trivial ?_
          exact awpN_wk 1 [1, 17, 18] (by kernel_rfl) _ _ (by kernel_rfl) (by kernel_rfl) (hrn5 (w64 (c4 + 1)) h)
        · rw [if_neg (ntrue hb9)] at h
          refine awp_skip ?_
          show awp _ _ _ _ _ _ _ _
          refine awp_sreg tt_ok (ks := [1, 2, 3, 5]) (hs := []) [(1, .ref 0 0), (2, vi c4), (3, vi c4), (5, .ref 1 0)] [.cells [vi p_r.Steep, .d (L58 p_r.Points)], .cells [vi p_r.Steep, .d (L58 x7)]] [] (by kernel_rfl) trivial ?_
          obtain ⟨o10, ho10, h⟩ := Option.bind_eq_some_iff.1 h
          refine awp_cut1 (OutQ (fun (ro10 : Int × Int × Int) => [(2, vi ro10.1), (3, vi ro10.2.1), (4, vi ro10.2.2)]) (fun (ro10 : Int × Int × Int) => []) (fun (_ : Unit) => []) (fun (_ : Unit) => []) o10) ?_ ?_
          · clear h
            have h := ho10
            clear ho10
            refine awp_selQ ?_
            refine awp_wk 2 [1, 2, 3, 5] (by kernel_rfl) [(1, .ref 0 0), (2, vi c4), (3, vi c4), (5, .ref 1 0)] [.cells [vi p_r.Steep, .d (L58 p_r.Points)], .cells [vi p_r.Steep, .d (L58 x7)]] (by kernel_rfl) (by kernel_rfl) ?_
            refine awp_block ?_
            refine awp_loop (n := fuel) ?_
            refine awpN_ind (fun n (c11 : Int × (List S_api_CvPoint)) => F21L2 fuel p_r c4 n c11) o10 (fun (c11 : Int × (List S_api_CvPoint)) => [(1, .ref 0 0), (2, vi c11.1), (3, vi c4), (5, .ref 1 0)]) (fun (c11 : Int × (List S_api_CvPoint)) => [.cells [vi p_r.Steep, .d (L58 p_r.Points)], .cells [vi p_r.Steep, .d (L58 c11.2)]]) (fun _ => rfl) ?_ fuel (c4, x7) h
            clear h
            intro n12 c11 h hrn12
            change F21L2 fuel p_r c4 (n12 + 1) c11 = some o10 at h
            rw [F21L2] at h
            refine awp_seq ?_
            refine awp_block ?_
            obtain ⟨x13, hx13, h⟩ := Option.bind_eq_some_iff.1 h
            refine awp_sreg tt_ok (ks := [1, 2, 3, 5]) (hs := [.no, .no, .no, .no, .no, .list x13.length (x13.flatMap cel58)]) [(1, .ref 0 0), (2, vi c11.1), (3, vi c4), (5, .ref 1 0)] [.cells [vi p_r.Steep, .d (L58 p_r.Points)], .cells [vi p_r.Steep, .d (L58 x13)]] [SliceOk (p_r.Points.flatMap cel58) 3 p_r.Points.length c11.1 (w64 (c4 + 1)) x13.length (x13.flatMap cel58)] (by kernel_rfl) (sliceOk cel58_len hx13) ?_
            obtain ⟨x14, hx14, h⟩ := Option.bind_eq_some_iff.1 h
            refine awp_sreg tt_ok (ks := [1, 2, 3, 5, 45]) (hs := [.no, .call [(.agg [(di p_r.Steep), (L58 x13)])] (vb x14)]) [(1, .ref 0 0), (2, vi c11.1), (3, vi c4), (5, .ref 1 0), (45, vb (!x14))] [.cells [vi p_r.Steep, .d (L58 p_r.Points)], .cells [vi p_r.Steep, .d (L58 x13)]] [PCall Try.prog 54 [(.agg [(di p_r.Steep), (L58 x13)])] (vb x14)] (by kernel_rfl) (ct54 hx14) ?_
            refine awp_cond (b := (!x14)) (by kernel_rfl) (fun hb15 => ?_) (fun hb15 => ?_)
            · rw [if_pos hb15] at h
              refine awp_sreg tt_ok (ks := [2, 3, 4]) (hs := []) [(2, vi c11.1), (3, vi c4), (4, vi 0)] [.cells [vi p_r.Steep, .d (L58 p_r.Points)], .cells [vi p_r.Steep, .d (L58 x13)]] [] (by kernel_rfl) trivial ?_
              obtain rfl := Option.some.inj h
              refine awp_wk 2 [2, 3, 4] (by kernel_rfl) [(2, vi c11.1), (3, vi c4), (4, vi 0)] [.cells [vi p_r.Steep, .d (L58 p_r.Points)], .cells [vi p_r.Steep, .d (L58 x13)]] (by kernel_rfl) (by kernel_rfl) ?_
              exact awp_ret (Sel.mk [] [2, 3, 4] (by kernel_rfl) (by kernel_rfl) (by kernel_rfl) OutQ.ret)
            · rw [if_neg (ntrue hb15)] at h
              refine awp_skip ?_
              show awp _ _ _ _ _ _ _ _
              refine awp_region (T' := [(1, .ref 0 0), (2, vi (w64 (c11.1 - 1))), (3, vi c4), (5, .ref 1 0)]) (H' := [.cells [vi p_r.Steep, .d (L58 p_r.Points)], .cells [vi p_r.Steep, .d (L58 x13)]]) (ps := []) tt_ok (ks := [1, 2, 3, 5]) (hs := []) (by kernel_rfl) trivial ?_
              exact awpN_wk 2 [1, 2, 3, 5] (by kernel_rfl) _ _ (by kernel_rfl) (by kernel_rfl) (hrn12 ((w64 (c11.1 - 1)), x13) h)
          · intro e T H hq
            cases o10 with
            | inl ro10 =>
              obtain ⟨rfl, rfl, rfl⟩ := hq
              rw [outK_inl] at h
              obtain rfl := Option.some.inj h
              exact Sel.mk [] [2, 3, 4] (by kernel_rfl) (by kernel_rfl) (by kernel_rfl) OutQ.ret
            | inr so10 =>
              rw [outK_inr] at h
              exact absurd h (by simp)
      · rw [if_neg (ntrue hb6)] at h
        refine awp_exit ?_
        obtain rfl := Option.some.inj h
        exact Sel.mk [0] [] (by kernel_rfl) (by kernel_rfl) (by kernel_rfl) OutQ.norm
    · intro e T H hq
      cases o3 with
      | inl ro3 =>
        obtain ⟨rfl, rfl, rfl⟩ := hq
        rw [outK_inl] at h
        obtain rfl := Option.some.inj h
        exact main_ret (by kernel_rfl)
      | inr so3 =>
        obtain ⟨rfl, rfl, rfl⟩ := hq
        rw [outK_inr] at h
        show awp _ _ _ _ _ _ _ _
        refine awp_sreg tt_ok (ks := [2, 3, 4]) (hs := []) [(2, vi 0), (3, vi 0), (4, vi 4)] [.cells [vi p_r.Steep, .d (L58 p_r.Points)]] [] (by kernel_rfl) trivial ?_
        obtain rfl := Option.some.inj h
        refine awp_wk 1 [2, 3, 4] (by kernel_rfl) [(2, vi 0), (3, vi 0), (4, vi 4)] [.cells [vi p_r.Steep, .d (L58 p_r.Points)]] (by kernel_rfl) (by kernel_rfl) ?_
        exact awp_ret (main_ret (by kernel_rfl))

-- hachure/carve.Need.1 H
def F57 (fuel : Nat)  (steep : Int) (b0x0 : Int) (b0x1 : List S_api_CvPoint) : Option (Bool) :=
  (F54 fuel (⟨(⟨steep, b0x1⟩ : S_api_CvRow)⟩ : S_carve_row)).bind fun x1 => some x1

set_option maxRecDepth 100000 in
theorem ct57 {fuel : Nat}  {steep : Int} {b0x0 : Int} {b0x1 : List S_api_CvPoint} {res : Bool} (h : F57 fuel steep b0x0 b0x1 = some res) : HCall Try.prog 57 [vi steep, .ref 0 0] [.cells [vi b0x0, .d (L58 b0x1)]] (vb res) [.cells [vi b0x0, .d (L58 b0x1)]] := by
  refine HCall.of_awpS tt_ok (N := 12) (fl := 1) Try.func57 rfl (by kernel_rfl) rfl rfl (Nat.le_of_ble_eq_true rfl) ?_
  unfold F57 at h
  refine awp_sreg tt_ok (ks := [0, 1]) (hs := []) [(0, vi steep), (1, .ref 0 0)] [.cells [vi b0x0, .d (L58 b0x1)]] [] (by kernel_rfl) trivial ?_
  refine awp_sreg tt_ok (ks := [0, 4]) (hs := []) [(0, vi steep), (4, .ref 1 0)] [.cells [vi b0x0, .d (L58 b0x1)], .cells [vi b0x0, .d (L58 b0x1)]] [] (by kernel_rfl) trivial ?_
  refine awp_sreg tt_ok (ks := [4]) (hs := []) [(4, .ref 1 0)] [.cells [vi b0x0, .d (L58 b0x1)], .cells [vi steep, .d (L58 b0x1)]] [] (by kernel_rfl) trivial ?_
  obtain ⟨x1, hx1, h⟩ := Option.bind_eq_some_iff.1 h
  refine awp_sreg tt_ok (ks := [3]) (hs := [.no, .call [(.agg [(di steep), (L58 b0x1)])] (vb x1)]) [(3, vb x1)] [.cells [vi b0x0, .d (L58 b0x1)], .cells [vi steep, .d (L58 b0x1)]] [PCall Try.prog 54 [(.agg [(di steep), (L58 b0x1)])] (vb x1)] (by kernel_rfl) (ct54 hx1) ?_
  obtain rfl := Option.some.inj h
  refine awp_wk 2 [3] (by kernel_rfl) [(3, vb x1)] [.cells [vi b0x0, .d (L58 b0x1)], .cells [vi steep, .d (L58 b0x1)]] (by kernel_rfl) (by kernel_rfl) ?_
  exact awp_ret (main_retS [0] (vb x1) (by kernel_rfl) (by kernel_rfl) (by kernel_rfl) (by kernel_rfl))

-- hachure/carve.least.int. H
def F56L1 (fuel : Nat) (b0x0 : Int) (b0x1 : List S_api_CvPoint) : Nat → (Int × Int) → Option ((Int) ⊕ (Int))
  | 0, _ => none
  | n3 + 1, c2 => if (decide (c2.1 < c2.2)) then ((F57 fuel (w64 ((w64 (c2.1 + c2.2)).tdiv 2)) b0x0 b0x1).bind fun x5 => if x5 then (F56L1 fuel b0x0 b0x1 n3 (c2.1, (w64 ((w64 (c2.1 + c2.2)).tdiv 2)))) else (F56L1 fuel b0x0 b0x1 n3 ((w64 ((w64 ((w64 (c2.1 + c2.2)).tdiv 2)) + 1)), c2.2))) else (some (.inr c2.1))

def F56 (fuel : Nat)  (last : Int) (b0x0 : Int) (b0x1 : List S_api_CvPoint) : Option (Int) :=
  (F56L1 fuel b0x0 b0x1 fuel (0, last)).bind fun o1 => outK o1 (fun (ro1 : Int) => some ro1) (fun (so1 : Int) => some so1)

set_option maxRecDepth 100000 in
theorem ct56 {fuel : Nat}  {last : Int} {b0x0 : Int} {b0x1 : List S_api_CvPoint} {res : Int} (h : F56 fuel last b0x0 b0x1 = some res) : HCall Try.prog 56 [vi last, .fn (.func 57) [] [.ref 0 0]] [.cells [vi b0x0, .d (L58 b0x1)]] (vi res) [.cells [vi b0x0, .d (L58 b0x1)]] := by
  refine HCall.of_awpS tt_ok (N := 24) (fl := 1) Try.func56 rfl (by kernel_rfl) rfl rfl (Nat.le_of_ble_eq_true rfl) ?_
  unfold F56 at h
  refine awp_sreg tt_ok (ks := [0, 1]) (hs := []) [(0, vi last), (1, .fn (.func 57) [] [.ref 0 0])] [.cells [vi b0x0, .d (L58 b0x1)]] [] (by kernel_rfl) trivial ?_
  refine awp_sreg tt_ok (ks := [1, 5, 6]) (hs := []) [(1, .fn (.func 57) [] [.ref 0 0]), (5, vi 0), (6, vi last)] [.cells [vi b0x0, .d (L58 b0x1)]] [] (by kernel_rfl) trivial ?_
  refine awp_seq ?_
  obtain ⟨o1, ho1, h⟩ := Option.bind_eq_some_iff.1 h
  refine awp_cut1 (OutQ (fun (ro1 : Int) => [(4, vi ro1)]) (fun (ro1 : Int) => [.cells [vi b0x0, .d (L58 b0x1)]]) (fun (so1 : Int) => [(5, vi so1)]) (fun (so1 : Int) => [.cells [vi b0x0, .d (L58 b0x1)]]) o1) ?_ ?_
  · clear h
    have h := ho1
    clear ho1
    refine awp_selQ ?_
    refine awp_wk 1 [1, 5, 6] (by kernel_rfl) [(1, .fn (.func 57) [] [.ref 0 0]), (5, vi 0), (6, vi last)] [.cells [vi b0x0, .d (L58 b0x1)]] (by kernel_rfl) (by kernel_rfl) ?_
    refine awp_block ?_
    refine awp_loop (n := fuel) ?_
    refine awpN_ind (fun n (c2 : Int × Int) => F56L1 fuel b0x0 b0x1 n c2) o1 (fun (c2 : Int × Int) => [(1, .fn (.func 57) [] [.ref 0 0]), (5, vi c2.1), (6, vi c2.2)]) (fun (c2 : Int × Int) => [.cells [vi b0x0, .d (L58 b0x1)]]) (fun _ => rfl) ?_ fuel (0, last) h
    clear h
    intro n3 c2 h hrn3
    change F56L1 fuel b0x0 b0x1 (n3 + 1) c2 = some o1 at h
    rw [F56L1] at h
    refine awp_seq ?_
    refine awp_sreg tt_ok (ks := [1, 5, 6, 12]) (hs := []) [(1, .fn (.func 57) [] [.ref 0 0]), (5, vi c2.1), (6, vi c2.2), (12, vb (decide (c2.1 < c2.2)))] [.cells [vi b0x0, .d (L58 b0x1)]] [] (by kernel_rfl) trivial ?_
    refine awp_cond (b := (decide (c2.1 < c2.2))) (by kernel_rfl) (fun hb4 => ?_) (fun hb4 => ?_)
    · rw [if_pos hb4] at h
      refine awp_skip ?_
      show awp _ _ _ _ _ _ _ _
      refine awp_block ?_
      refine awp_sreg tt_ok (ks := [1, 5, 6, 7]) (hs := []) [(1, .fn (.func 57) [] [.ref 0 0]), (5, vi c2.1), (6, vi c2.2), (7, vi (w64 ((w64 (c2.1 + c2.2)).tdiv 2)))] [.cells [vi b0x0, .d (L58 b0x1)]] [((2 : Int) ≠ 0)] (by kernel_rfl) ((by decide : (2 : Int) ≠ 0)) ?_
      obtain ⟨x5, hx5, h⟩ := Option.bind_eq_some_iff.1 h
      refine awp_sreg tt_ok (ks := [1, 5, 6, 7, 19]) (hs := [.no, .no, .hcall [(0, false)] (vb x5) [.cells [vi b0x0, .d (L58 b0x1)]]]) [(1, .fn (.func 57) [] [.ref 0 0]), (5, vi c2.1), (6, vi c2.2), (7, vi (w64 ((w64 (c2.1 + c2.2)).tdiv 2))), (19, vb x5)] [.cells [vi b0x0, .d (L58 b0x1)]] [HCall Try.prog 57 [vi (w64 ((w64 (c2.1 + c2.2)).tdiv 2)), .ref 0 0] [.cells [vi b0x0, .d (L58 b0x1)]] (vb x5) [.cells [vi b0x0, .d (L58 b0x1)]]] (by kernel_rfl) (ct57 hx5) ?_
      refine awp_cond (b := x5) (by kernel_rfl) (fun hb6 => ?_) (fun hb6 => ?_)
      · rw [if_pos hb6] at h
        refine awp_region (T' := [(1, .fn (.func 57) [] [.ref 0 0]), (5, vi c2.1), (6, vi (w64 ((w64 (c2.1 + c2.2)).tdiv 2)))]) (H' := [.cells [vi b0x0, .d (L58 b0x1)]]) (ps := []) tt_ok (ks := [1, 5, 6]) (hs := []) (by kernel_rfl) trivial ?_
        exact awpN_wk 1 [1, 5, 6] (by kernel_rfl) _ _ (by kernel_rfl) (by kernel_rfl) (hrn3 (c2.1, (w64 ((w64 (c2.1 + c2.2)).tdiv 2))) h)
      · rw [if_neg (ntrue hb6)] at h
        refine awp_region (T' := [(1, .fn (.func 57) [] [.ref 0 0]), (5, vi (w64 ((w64 ((w64 (c2.1 + c2.2)).tdiv 2)) + 1))), (6, vi c2.2)]) (H' := [.cells [vi b0x0, .d (L58 b0x1)]]) (ps := []) tt_ok (ks := [1, 5, 6]) (hs := []) (by kernel_rfl) trivial ?_
        exact awpN_wk 1 [1, 5, 6] (by kernel_rfl) _ _ (by kernel_rfl) (by kernel_rfl) (hrn3 ((w64 ((w64 ((w64 (c2.1 + c2.2)).tdiv 2)) + 1)), c2.2) h)
    · rw [if_neg (ntrue hb4)] at h
      refine awp_exit ?_
      obtain rfl := Option.some.inj h
      exact Sel.mk [0] [5] (by kernel_rfl) (by kernel_rfl) (by kernel_rfl) OutQ.norm
  · intro e T H hq
    cases o1 with
    | inl ro1 =>
      obtain ⟨rfl, rfl, rfl⟩ := hq
      rw [outK_inl] at h
      obtain rfl := Option.some.inj h
      exact (main_retS [0] (vi ro1) (by kernel_rfl) (by kernel_rfl) (by kernel_rfl) (by kernel_rfl))
    | inr so1 =>
      obtain ⟨rfl, rfl, rfl⟩ := hq
      rw [outK_inr] at h
      show awp _ _ _ _ _ _ _ _
      refine awp_sreg tt_ok (ks := [4]) (hs := []) [(4, vi so1)] [.cells [vi b0x0, .d (L58 b0x1)]] [] (by kernel_rfl) trivial ?_
      obtain rfl := Option.some.inj h
      refine awp_wk 1 [4] (by kernel_rfl) [(4, vi so1)] [.cells [vi b0x0, .d (L58 b0x1)]] (by kernel_rfl) (by kernel_rfl) ?_
      exact awp_ret (main_retS [0] (vi so1) (by kernel_rfl) (by kernel_rfl) (by kernel_rfl) (by kernel_rfl))

-- hachure/carve.Need P
def F23 (fuel : Nat)  (p_r : S_api_CvRow) : Option (Int × Int) :=
  (F16 fuel p_r).bind fun x1 => if (x1.2.2 != 0) then (some (0, x1.2.2)) else ((F56 fuel 9000 p_r.Steep p_r.Points).bind fun x3 => some (x3, 0))

set_option maxRecDepth 100000 in
theorem ct23 {fuel : Nat}  {p_r : S_api_CvRow} {res : Int × Int} (h : F23 fuel p_r = some res) : PCall Try.prog 23 [(.agg [(di p_r.Steep), (L58 p_r.Points)])] (.tup [vi res.1, vi res.2]) := by
  refine PCall.of_awp tt_ok (N := 18) Try.func23 rfl (by kernel_rfl) rfl (Nat.le_of_ble_eq_true rfl) rfl ?_
  unfold F23 at h
  refine awp_sreg tt_ok (ks := [1]) (hs := []) [(1, .ref 0 0)] [.cells [vi p_r.Steep, .d (L58 p_r.Points)]] [] (by kernel_rfl) trivial ?_
  refine awp_seq ?_
  obtain ⟨x1, hx1, h⟩ := Option.bind_eq_some_iff.1 h
  refine awp_sreg tt_ok (ks := [1, 6]) (hs := [.no, .call [(.agg [(di p_r.Steep), (L58 p_r.Points)])] (.tup [vi x1.1, vi x1.2.1, vi x1.2.2])]) [(1, .ref 0 0), (6, vi x1.2.2)] [.cells [vi p_r.Steep, .d (L58 p_r.Points)]] [PCall Try.prog 16 [(.agg [(di p_r.Steep), (L58 p_r.Points)])] (.tup [vi x1.1, vi x1.2.1, vi x1.2.2])] (by kernel_rfl) (ct16 hx1) ?_
  refine awp_sreg tt_ok (ks := [1, 6, 14]) (hs := []) [(1, .ref 0 0), (6, vi x1.2.2), (14, vb (x1.2.2 != 0))] [.cells [vi p_r.Steep, .d (L58 p_r.Points)]] [] (by kernel_rfl) trivial ?_
  refine awp_cond (b := (x1.2.2 != 0)) (by kernel_rfl) (fun hb2 => ?_) (fun hb2 => ?_)
  · rw [if_pos hb2] at h
    refine awp_sreg tt_ok (ks := [2, 3]) (hs := []) [(2, vi 0), (3, vi x1.2.2)] [.cells [vi p_r.Steep, .d (L58 p_r.Points)]] [] (by kernel_rfl) trivial ?_
    obtain rfl := Option.some.inj h
    refine awp_wk 1 [2, 3] (by kernel_rfl) [(2, vi 0), (3, vi x1.2.2)] [.cells [vi p_r.Steep, .d (L58 p_r.Points)]] (by kernel_rfl) (by kernel_rfl) ?_
    exact awp_ret (main_ret (by kernel_rfl))
  · rw [if_neg (ntrue hb2)] at h
    refine awp_skip ?_
    show awp _ _ _ _ _ _ _ _
    obtain ⟨x3, hx3, h⟩ := Option.bind_eq_some_iff.1 h
    refine awp_sreg tt_ok (ks := [2, 3]) (hs := [.no, .hcall [(0, false)] (vi x3) [.cells [vi p_r.Steep, .d (L58 p_r.Points)]]]) [(2, vi x3), (3, vi 0)] [.cells [vi p_r.Steep, .d (L58 p_r.Points)]] [HCall Try.prog 56 [vi 9000, .fn (.func 57) [] [.ref 0 0]] [.cells [vi p_r.Steep, .d (L58 p_r.Points)]] (vi x3) [.cells [vi p_r.Steep, .d (L58 p_r.Points)]]] (by kernel_rfl) (ct56 hx3) ?_
    obtain rfl := Option.some.inj h
    refine awp_wk 1 [2, 3] (by kernel_rfl) [(2, vi x3), (3, vi 0)] [.cells [vi p_r.Steep, .d (L58 p_r.Points)]] (by kernel_rfl) (by kernel_rfl) ?_
    exact awp_ret (main_ret (by kernel_rfl))

-- hachure/hachurelaw04.Two P
def F39   : Option (S_api_CvRow) :=
  some (⟨0, ([(⟨10, 0, 20⟩ : S_api_CvPoint), (⟨8, 0, 20⟩ : S_api_CvPoint)] : List S_api_CvPoint)⟩ : S_api_CvRow)

set_option maxRecDepth 100000 in
theorem ct39   {res : S_api_CvRow} (h : F39 = some res) : PCall Try.prog 39 [] (.d (.agg [(di res.Steep), (L58 res.Points)])) := by
  refine PCall.of_awp tt_ok (N := 5) Try.func39 rfl (by kernel_rfl) rfl (Nat.le_of_ble_eq_true rfl) rfl ?_
  unfold F39 at h
  refine awp_sreg tt_ok (ks := [0]) (hs := []) [(0, .ref 0 0)] [.cells [vi 0, .d dnil]] [] (by kernel_rfl) trivial ?_
  refine awp_sreg tt_ok (ks := [0]) (hs := []) [(0, .ref 0 0)] [.cells [vi 0, .d (L58 ([(⟨10, 0, 20⟩ : S_api_CvPoint), (⟨8, 0, 20⟩ : S_api_CvPoint)] : List S_api_CvPoint))]] [] (by kernel_rfl) trivial ?_
  obtain rfl := Option.some.inj h
  refine awp_wk 1 [0] (by kernel_rfl) [(0, .ref 0 0)] [.cells [vi 0, .d (L58 ([(⟨10, 0, 20⟩ : S_api_CvPoint), (⟨8, 0, 20⟩ : S_api_CvPoint)] : List S_api_CvPoint))]] (by kernel_rfl) (by kernel_rfl) ?_
  exact awp_ret (main_ret (by kernel_rfl))

-- cmp.isNaN.int. P
def F83  (p_x : Int) : Option (Bool) :=
  some (p_x != p_x)

set_option maxRecDepth 100000 in
theorem ct83  {p_x : Int} {res : Bool} (h : F83 p_x = some res) : PCall Try.prog 83 [(di p_x)] (vb res) := by
  refine PCall.of_awp tt_ok (N := 6) Try.func83 rfl (by kernel_rfl) rfl (Nat.le_of_ble_eq_true rfl) rfl ?_
  unfold F83 at h
  refine awp_sreg tt_ok (ks := [0]) (hs := []) [(0, vi p_x)] [] [] (by kernel_rfl) trivial ?_
  refine awp_sreg tt_ok (ks := [2]) (hs := []) [(2, vb (p_x != p_x))] [] [] (by kernel_rfl) trivial ?_
  obtain rfl := Option.some.inj h
  refine awp_wk 0 [2] (by kernel_rfl) [(2, vb (p_x != p_x))] [] (by kernel_rfl) (by kernel_rfl) ?_
  exact awp_ret (main_ret (by kernel_rfl))

-- cmp.Compare.int. P
def F82  (p_x : Int) (y : Int) : Option (Int) :=
  (F83 p_x).bind fun x1 => (F83 y).bind fun x2 => if x1 then (if x2 then (some 0) else (some (-1))) else (if x2 then (some 1) else (if (decide (p_x < y)) then (some (-1)) else (if (decide (p_x > y)) then (some 1) else (some 0))))

set_option maxRecDepth 100000 in
theorem ct82  {p_x : Int} {y : Int} {res : Int} (h : F82 p_x y = some res) : PCall Try.prog 82 [(di p_x), (di y)] (vi res) := by
  refine PCall.of_awp tt_ok (N := 20) Try.func82 rfl (by kernel_rfl) rfl (Nat.le_of_ble_eq_true rfl) rfl ?_
  unfold F82 at h
  refine awp_sreg tt_ok (ks := [0, 1]) (hs := []) [(0, vi p_x), (1, vi y)] [] [] (by kernel_rfl) trivial ?_
  obtain ⟨x1, hx1, h⟩ := Option.bind_eq_some_iff.1 h
  refine awp_sreg tt_ok (ks := [0, 1, 5]) (hs := [.no, .call [(di p_x)] (vb x1)]) [(0, vi p_x), (1, vi y), (5, vb x1)] [] [PCall Try.prog 83 [(di p_x)] (vb x1)] (by kernel_rfl) (ct83 hx1) ?_
  obtain ⟨x2, hx2, h⟩ := Option.bind_eq_some_iff.1 h
  refine awp_sreg tt_ok (ks := [0, 1, 5, 6]) (hs := [.no, .call [(di y)] (vb x2)]) [(0, vi p_x), (1, vi y), (5, vb x1), (6, vb x2)] [] [PCall Try.prog 83 [(di y)] (vb x2)] (by kernel_rfl) (ct83 hx2) ?_
  refine awp_seq ?_
  refine awp_sreg tt_ok (ks := [0, 1, 6, 11]) (hs := []) [(0, vi p_x), (1, vi y), (6, vb x2), (11, vb x1)] [] [] (by kernel_rfl) trivial ?_
  refine awp_cond (b := x1) (by kernel_rfl) (fun hb3 => ?_) (fun hb3 => ?_)
  · rw [if_pos hb3] at h
    refine awp_seq ?_
    refine awp_sreg tt_ok (ks := [12]) (hs := []) [(12, vb x2)] [] [] (by kernel_rfl) trivial ?_
    refine awp_cond (b := x2) (by kernel_rfl) (fun hb4 => ?_) (fun hb4 => ?_)
    · rw [if_pos hb4] at h
      refine awp_sreg tt_ok (ks := [4]) (hs := []) [(4, vi 0)] [] [] (by kernel_rfl) trivial ?_
      obtain rfl := Option.some.inj h
      refine awp_wk 0 [4] (by kernel_rfl) [(4, vi 0)] [] (by kernel_rfl) (by kernel_rfl) ?_
      exact awp_ret (main_ret (by kernel_rfl))
    · rw [if_neg (ntrue hb4)] at h
      refine awp_skip ?_
      show awp _ _ _ _ _ _ _ _
      refine awp_sreg tt_ok (ks := [4]) (hs := []) [(4, vi (-1))] [] [] (by kernel_rfl) trivial ?_
      obtain rfl := Option.some.inj h
      refine awp_wk 0 [4] (by kernel_rfl) [(4, vi (-1))] [] (by kernel_rfl) (by kernel_rfl) ?_
      exact awp_ret (main_ret (by kernel_rfl))
  · rw [if_neg (ntrue hb3)] at h
    refine awp_skip ?_
    show awp _ _ _ _ _ _ _ _
    refine awp_seq ?_
    refine awp_sreg tt_ok (ks := [0, 1, 13]) (hs := []) [(0, vi p_x), (1, vi y), (13, vb x2)] [] [] (by kernel_rfl) trivial ?_
    refine awp_cond (b := x2) (by kernel_rfl) (fun hb5 => ?_) (fun hb5 => ?_)
    · rw [if_pos hb5] at h
      refine awp_sreg tt_ok (ks := [4]) (hs := []) [(4, vi 1)] [] [] (by kernel_rfl) trivial ?_
      obtain rfl := Option.some.inj h
      refine awp_wk 0 [4] (by kernel_rfl) [(4, vi 1)] [] (by kernel_rfl) (by kernel_rfl) ?_
      exact awp_ret (main_ret (by kernel_rfl))
    · rw [if_neg (ntrue hb5)] at h
      refine awp_skip ?_
      show awp _ _ _ _ _ _ _ _
      refine awp_seq ?_
      refine awp_sreg tt_ok (ks := [0, 1, 16]) (hs := []) [(0, vi p_x), (1, vi y), (16, vb (decide (p_x < y)))] [] [] (by kernel_rfl) trivial ?_
      refine awp_cond (b := (decide (p_x < y))) (by kernel_rfl) (fun hb6 => ?_) (fun hb6 => ?_)
      · rw [if_pos hb6] at h
        refine awp_sreg tt_ok (ks := [4]) (hs := []) [(4, vi (-1))] [] [] (by kernel_rfl) trivial ?_
        obtain rfl := Option.some.inj h
        refine awp_wk 0 [4] (by kernel_rfl) [(4, vi (-1))] [] (by kernel_rfl) (by kernel_rfl) ?_
        exact awp_ret (main_ret (by kernel_rfl))
      · rw [if_neg (ntrue hb6)] at h
        refine awp_skip ?_
        show awp _ _ _ _ _ _ _ _
        refine awp_seq ?_
        refine awp_sreg tt_ok (ks := [19]) (hs := []) [(19, vb (decide (p_x > y)))] [] [] (by kernel_rfl) trivial ?_
        refine awp_cond (b := (decide (p_x > y))) (by kernel_rfl) (fun hb7 => ?_) (fun hb7 => ?_)
        · rw [if_pos hb7] at h
          refine awp_sreg tt_ok (ks := [4]) (hs := []) [(4, vi 1)] [] [] (by kernel_rfl) trivial ?_
          obtain rfl := Option.some.inj h
          refine awp_wk 0 [4] (by kernel_rfl) [(4, vi 1)] [] (by kernel_rfl) (by kernel_rfl) ?_
          exact awp_ret (main_ret (by kernel_rfl))
        · rw [if_neg (ntrue hb7)] at h
          refine awp_skip ?_
          show awp _ _ _ _ _ _ _ _
          refine awp_sreg tt_ok (ks := [4]) (hs := []) [(4, vi 0)] [] [] (by kernel_rfl) trivial ?_
          obtain rfl := Option.some.inj h
          refine awp_wk 0 [4] (by kernel_rfl) [(4, vi 0)] [] (by kernel_rfl) (by kernel_rfl) ?_
          exact awp_ret (main_ret (by kernel_rfl))

-- slices.Compare...int.int. P
def F78L1 (p_s1 : (List Int)) (p_s2 : (List Int)) : Nat → Int → Option ((Int) ⊕ (Unit))
  | 0, _ => none
  | n3 + 1, c2 => if (decide (c2 < (p_s1.length : Int))) then ((idx p_s1 c2).bind fun x5 => if (decide (c2 ≥ (p_s2.length : Int))) then (some (.inl 1)) else ((idx p_s2 c2).bind fun x7 => (F82 x5 x7).bind fun x8 => if (x8 != 0) then (some (.inl x8)) else (F78L1 p_s1 p_s2 n3 (w64 (c2 + 1))))) else (some (.inr ()))

def F78 (fuel : Nat)  (p_s1 : (List Int)) (p_s2 : (List Int)) : Option (Int) :=
  (F78L1 p_s1 p_s2 fuel 0).bind fun o1 => outK o1 (fun (ro1 : Int) => some ro1) (fun (so1 : Unit) => if (decide ((p_s1.length : Int) < (p_s2.length : Int))) then (some (-1)) else (some 0))

set_option maxRecDepth 100000 in
theorem ct78 {fuel : Nat}  {p_s1 : (List Int)} {p_s2 : (List Int)} {res : Int} (h : F78 fuel p_s1 p_s2 = some res) : PCall Try.prog 78 [(L3 p_s1), (L3 p_s2)] (vi res) := by
  refine PCall.of_awp tt_ok (N := 36) Try.func78 rfl (by kernel_rfl) rfl (Nat.le_of_ble_eq_true rfl) rfl ?_
  unfold F78 at h
  refine awp_sreg tt_ok (ks := [0, 1]) (hs := []) [(0, .d (L3 p_s1)), (1, .d (L3 p_s2))] [] [] (by kernel_rfl) trivial ?_
  refine awp_seq ?_
  refine awp_sreg tt_ok (ks := [0, 1, 9, 10, 11]) (hs := []) [(0, .d (L3 p_s1)), (1, .d (L3 p_s2)), (9, .d (L3 p_s1)), (10, vi (p_s1.length : Int)), (11, vi 0)] [] [] (by kernel_rfl) trivial ?_
  obtain ⟨o1, ho1, h⟩ := Option.bind_eq_some_iff.1 h
  refine awp_cut1 (OutQ (fun (ro1 : Int) => [(4, vi ro1)]) (fun (ro1 : Int) => []) (fun (so1 : Unit) => [(0, .d (L3 p_s1)), (1, .d (L3 p_s2))]) (fun (so1 : Unit) => []) o1) ?_ ?_
  · clear h
    have h := ho1
    clear ho1
    refine awp_selQ ?_
    refine awp_wk 0 [0, 1, 9, 10, 11] (by kernel_rfl) [(0, .d (L3 p_s1)), (1, .d (L3 p_s2)), (9, .d (L3 p_s1)), (10, vi (p_s1.length : Int)), (11, vi 0)] [] (by kernel_rfl) (by kernel_rfl) ?_
    refine awp_block ?_
    refine awp_loop (n := fuel) ?_
    refine awpN_ind (fun n (c2 : Int) => F78L1 p_s1 p_s2 n c2) o1 (fun (c2 : Int) => [(0, .d (L3 p_s1)), (1, .d (L3 p_s2)), (9, .d (L3 p_s1)), (10, vi (p_s1.length : Int)), (11, vi c2)]) (fun (c2 : Int) => []) (fun _ => rfl) ?_ fuel 0 h
    clear h
    intro n3 c2 h hrn3
    change F78L1 p_s1 p_s2 (n3 + 1) c2 = some o1 at h
    rw [F78L1] at h
    refine awp_sreg tt_ok (ks := [0, 1, 9, 10, 11, 12]) (hs := []) [(0, .d (L3 p_s1)), (1, .d (L3 p_s2)), (9, .d (L3 p_s1)), (10, vi (p_s1.length : Int)), (11, vi c2), (12, vb (decide (c2 < (p_s1.length : Int))))] [] [] (by kernel_rfl) trivial ?_
    refine awp_seq ?_
    refine awp_cond (b := (decide (c2 < (p_s1.length : Int)))) (by kernel_rfl) (fun hb4 => ?_) (fun hb4 => ?_)
    · rw [if_pos hb4] at h
      refine awp_skip ?_
      show awp _ _ _ _ _ _ _ _
      refine awp_seq ?_
      refine awp_block ?_
      obtain ⟨x5, hx5, h⟩ := Option.bind_eq_some_iff.1 h
      refine awp_sreg tt_ok (ks := [0, 1, 5, 6, 9, 10, 11]) (hs := [.no, .cells (cel3 x5)]) [(0, .d (L3 p_s1)), (1, .d (L3 p_s2)), (5, vi c2), (6, vi x5), (9, .d (L3 p_s1)), (10, vi (p_s1.length : Int)), (11, vi c2)] [] [IX3 p_s1 c2 x5] (by kernel_rfl) (idxOk cel3_len hx5) ?_
      refine awp_seq ?_
      refine awp_sreg tt_ok (ks := [0, 1, 5, 6, 9, 10, 11, 19]) (hs := []) [(0, .d (L3 p_s1)), (1, .d (L3 p_s2)), (5, vi c2), (6, vi x5), (9, .d (L3 p_s1)), (10, vi (p_s1.length : Int)), (11, vi c2), (19, vb (decide (c2 ≥ (p_s2.length : Int))))] [] [] (by kernel_rfl) trivial ?_
      refine awp_cond (b := (decide (c2 ≥ (p_s2.length : Int)))) (by kernel_rfl) (fun hb6 => ?_) (fun hb6 => ?_)
      · rw [if_pos hb6] at h
        refine awp_sreg tt_ok (ks := [4]) (hs := []) [(4, vi 1)] [] [] (by kernel_rfl) trivial ?_
        obtain rfl := Option.some.inj h
        refine awp_wk 0 [4] (by kernel_rfl) [(4, vi 1)] [] (by kernel_rfl) (by kernel_rfl) ?_
        exact awp_ret (Sel.mk [] [4] (by kernel_rfl) (by kernel_rfl) (by kernel_rfl) OutQ.ret)
      · rw [if_neg (ntrue hb6)] at h
        refine awp_skip ?_
        show awp _ _ _ _ _ _ _ _
        obtain ⟨x7, hx7, h⟩ := Option.bind_eq_some_iff.1 h
        refine awp_sreg tt_ok (ks := [0, 1, 6, 7, 9, 10, 11]) (hs := [.no, .no, .cells (cel3 x7)]) [(0, .d (L3 p_s1)), (1, .d (L3 p_s2)), (6, vi x5), (7, vi x7), (9, .d (L3 p_s1)), (10, vi (p_s1.length : Int)), (11, vi c2)] [] [IX3 p_s2 c2 x7] (by kernel_rfl) (idxOk cel3_len hx7) ?_
        obtain ⟨x8, hx8, h⟩ := Option.bind_eq_some_iff.1 h
        refine awp_sreg tt_ok (ks := [0, 1, 8, 9, 10, 11]) (hs := [.no, .no, .call [(di x5), (di x7)] (vi x8)]) [(0, .d (L3 p_s1)), (1, .d (L3 p_s2)), (8, vi x8), (9, .d (L3 p_s1)), (10, vi (p_s1.length : Int)), (11, vi c2)] [] [PCall Try.prog 82 [(di x5), (di x7)] (vi x8)] (by kernel_rfl) (ct82 hx8) ?_
        refine awp_sreg tt_ok (ks := [0, 1, 8, 9, 10, 11, 28]) (hs := []) [(0, .d (L3 p_s1)), (1, .d (L3 p_s2)), (8, vi x8), (9, .d (L3 p_s1)), (10, vi (p_s1.length : Int)), (11, vi c2), (28, vb (x8 != 0))] [] [] (by kernel_rfl) trivial ?_
        refine awp_cond (b := (x8 != 0)) (by kernel_rfl) (fun hb9 => ?_) (fun hb9 => ?_)
        · rw [if_pos hb9] at h
          refine awp_sreg tt_ok (ks := [4]) (hs := []) [(4, vi x8)] [] [] (by kernel_rfl) trivial ?_
          obtain rfl := Option.some.inj h
          refine awp_wk 0 [4] (by kernel_rfl) [(4, vi x8)] [] (by kernel_rfl) (by kernel_rfl) ?_
          exact awp_ret (Sel.mk [] [4] (by kernel_rfl) (by kernel_rfl) (by kernel_rfl) OutQ.ret)
        · rw [if_neg (ntrue hb9)] at h
          refine awp_skip ?_
          show awp _ _ _ _ _ _ _ _
          refine awp_region (T' := [(0, .d (L3 p_s1)), (1, .d (L3 p_s2)), (9, .d (L3 p_s1)), (10, vi (p_s1.length : Int)), (11, vi (w64 (c2 + 1)))]) (H' := []) (ps := []) tt_ok (ks := [0, 1, 9, 10, 11]) (hs := []) (by kernel_rfl) trivial ?_
          exact awpN_wk 0 [0, 1, 9, 10, 11] (by kernel_rfl) _ _ (by kernel_rfl) (by kernel_rfl) (hrn3 (w64 (c2 + 1)) h)
    · rw [if_neg (ntrue hb4)] at h
      refine awp_exit ?_
      obtain rfl := Option.some.inj h
      exact Sel.mk [] [0, 1] (by kernel_rfl) (by kernel_rfl) (by kernel_rfl) OutQ.norm
  · intro e T H hq
    cases o1 with
    | inl ro1 =>
      obtain ⟨rfl, rfl, rfl⟩ := hq
      rw [outK_inl] at h
      obtain rfl := Option.some.inj h
      exact main_ret (by kernel_rfl)
    | inr so1 =>
      obtain ⟨rfl, rfl, rfl⟩ := hq
      rw [outK_inr] at h
      show awp _ _ _ _ _ _ _ _
      refine awp_seq ?_
      refine awp_sreg tt_ok (ks := [35]) (hs := []) [(35, vb (decide ((p_s1.length : Int) < (p_s2.length : Int))))] [] [] (by kernel_rfl) trivial ?_
      refine awp_cond (b := (decide ((p_s1.length : Int) < (p_s2.length : Int)))) (by kernel_rfl) (fun hb10 => ?_) (fun hb10 => ?_)
      · rw [if_pos hb10] at h
        refine awp_sreg tt_ok (ks := [4]) (hs := []) [(4, vi (-1))] [] [] (by kernel_rfl) trivial ?_
        obtain rfl := Option.some.inj h
        refine awp_wk 0 [4] (by kernel_rfl) [(4, vi (-1))] [] (by kernel_rfl) (by kernel_rfl) ?_
        exact awp_ret (main_ret (by kernel_rfl))
      · rw [if_neg (ntrue hb10)] at h
        refine awp_skip ?_
        show awp _ _ _ _ _ _ _ _
        refine awp_sreg tt_ok (ks := [4]) (hs := []) [(4, vi 0)] [] [] (by kernel_rfl) trivial ?_
        obtain rfl := Option.some.inj h
        refine awp_wk 0 [4] (by kernel_rfl) [(4, vi 0)] [] (by kernel_rfl) (by kernel_rfl) ?_
        exact awp_ret (main_ret (by kernel_rfl))

-- (hachure/carve.needs).plasterFirst P
def F66 (fuel : Nat)  (p_n : S_carve_needs) (p_m : S_carve_needs) : Option (Int) :=
  (F78 fuel ([p_n.e0, p_n.e1] : List Int) ([p_m.e0, p_m.e1] : List Int)).bind fun x1 => some x1

set_option maxRecDepth 100000 in
theorem ct66 {fuel : Nat}  {p_n : S_carve_needs} {p_m : S_carve_needs} {res : Int} (h : F66 fuel p_n p_m = some res) : PCall Try.prog 66 [(.agg [(di p_n.e0), (di p_n.e1)]), (.agg [(di p_m.e0), (di p_m.e1)])] (vi res) := by
  refine PCall.of_awp tt_ok (N := 8) Try.func66 rfl (by kernel_rfl) rfl (Nat.le_of_ble_eq_true rfl) rfl ?_
  unfold F66 at h
  refine awp_sreg tt_ok (ks := [2, 3]) (hs := []) [(2, .ref 0 0), (3, .ref 1 0)] [.cells [vi p_n.e0, vi p_n.e1], .cells [vi p_m.e0, vi p_m.e1]] [] (by kernel_rfl) trivial ?_
  obtain ⟨x1, hx1, h⟩ := Option.bind_eq_some_iff.1 h
  refine awp_sdraw tt_ok mixed (ks := [4]) (hs := [.no, .no, .call [(L3 ([p_n.e0, p_n.e1] : List Int)), (L3 ([p_m.e0, p_m.e1] : List Int))] (vi x1)]) 2 [4, 5, 6, 7] [(4, vi x1)] [.cells [vi p_n.e0, vi p_n.e1], .cells [vi p_m.e0, vi p_m.e1]] [(0 ≤ (0 : Int) ∧ (0 : Int) ≤ ((2 : Nat) : Int) ∧ ((2 : Nat) : Int) ≤ ((2 : Nat) : Int) ∧ ((0 : Int) = 0 ∨ (0 : Int) < ((2 : Nat) : Int)) ∧ 0 + 2 * 1 ≤ 2 ∧ 2 ≤ 9223372036854775807), (0 ≤ (0 : Int) ∧ (0 : Int) ≤ ((2 : Nat) : Int) ∧ ((2 : Nat) : Int) ≤ ((2 : Nat) : Int) ∧ ((0 : Int) = 0 ∨ (0 : Int) < ((2 : Nat) : Int)) ∧ 0 + 2 * 1 ≤ 2 ∧ 2 ≤ 9223372036854775807), argsOk [.cells [vi p_n.e0, vi p_n.e1], .cells [vi p_m.e0, vi p_m.e1]] [.sl 1 0 0 2, .sl 1 1 0 2] [(L3 ([p_n.e0, p_n.e1] : List Int)), (L3 ([p_m.e0, p_m.e1] : List Int))], PCall Try.prog 78 [(L3 ([p_n.e0, p_n.e1] : List Int)), (L3 ([p_m.e0, p_m.e1] : List Int))] (vi x1)] (by kernel_rfl) (And.intro ((by decide : (0 ≤ (0 : Int) ∧ (0 : Int) ≤ ((2 : Nat) : Int) ∧ ((2 : Nat) : Int) ≤ ((2 : Nat) : Int) ∧ ((0 : Int) = 0 ∨ (0 : Int) < ((2 : Nat) : Int)) ∧ 0 + 2 * 1 ≤ 2 ∧ 2 ≤ 9223372036854775807))) (And.intro ((by decide : (0 ≤ (0 : Int) ∧ (0 : Int) ≤ ((2 : Nat) : Int) ∧ ((2 : Nat) : Int) ≤ ((2 : Nat) : Int) ∧ ((0 : Int) = 0 ∨ (0 : Int) < ((2 : Nat) : Int)) ∧ 0 + 2 * 1 ≤ 2 ∧ 2 ≤ 9223372036854775807))) (And.intro ((And.intro (⟨rfl, rfl, rfl, _, rfl, rfl, Nat.le_of_ble_eq_true rfl⟩) (And.intro (⟨rfl, rfl, rfl, _, rfl, rfl, Nat.le_of_ble_eq_true rfl⟩) trivial))) (ct78 hx1)))) ?_
  obtain rfl := Option.some.inj h
  refine awp_wk 2 [4] (by kernel_rfl) [(4, vi x1)] [.cells [vi p_n.e0, vi p_n.e1], .cells [vi p_m.e0, vi p_m.e1]] (by kernel_rfl) (by kernel_rfl) ?_
  exact awp_ret (main_ret (by kernel_rfl))

-- (hachure/carve.needs).passesFirst P
def F67 (fuel : Nat)  (p_n : S_carve_needs) (p_m : S_carve_needs) : Option (Int) :=
  (F66 fuel (⟨p_n.e1, p_n.e0⟩ : S_carve_needs) (⟨p_m.e1, p_m.e0⟩ : S_carve_needs)).bind fun x1 => some x1

set_option maxRecDepth 100000 in
theorem ct67 {fuel : Nat}  {p_n : S_carve_needs} {p_m : S_carve_needs} {res : Int} (h : F67 fuel p_n p_m = some res) : PCall Try.prog 67 [(.agg [(di p_n.e0), (di p_n.e1)]), (.agg [(di p_m.e0), (di p_m.e1)])] (vi res) := by
  refine PCall.of_awp tt_ok (N := 24) Try.func67 rfl (by kernel_rfl) rfl (Nat.le_of_ble_eq_true rfl) rfl ?_
  unfold F67 at h
  refine awp_sreg tt_ok (ks := [2, 3]) (hs := []) [(2, .ref 0 0), (3, .ref 1 0)] [.cells [vi p_n.e0, vi p_n.e1], .cells [vi p_m.e0, vi p_m.e1]] [] (by kernel_rfl) trivial ?_
  refine awp_sreg tt_ok (ks := [2, 3, 5, 6]) (hs := []) [(2, .ref 0 0), (3, .ref 1 0), (5, .ref 2 0), (6, .ref 3 0)] [.cells [vi p_n.e0, vi p_n.e1], .cells [vi p_m.e0, vi p_m.e1], .cells [vi 0, vi 0], .cells [vi 0, vi 0]] [] (by kernel_rfl) trivial ?_
  refine awp_sdraw tt_ok mixed (ks := [3, 5, 6]) (hs := []) 6 [3, 5, 6, 7, 12] [(3, .ref 1 0), (5, .ref 2 0), (6, .ref 3 0)] [.cells [vi p_n.e0, vi p_n.e1], .cells [vi p_m.e0, vi p_m.e1], .cells [vi p_n.e1, vi p_n.e0], .cells [vi 0, vi 0]] [(0 ≤ (0 : Int) ∧ (0 : Int) ≤ ((2 : Nat) : Int) ∧ ((2 : Nat) : Int) ≤ ((2 : Nat) : Int) ∧ ((0 : Int) = 0 ∨ (0 : Int) < ((2 : Nat) : Int)) ∧ 0 + 2 * 1 ≤ 2 ∧ 2 ≤ 9223372036854775807), (0 ≤ (1 : Int) ∧ (1 : Int) < (2 : Int)), (0 ≤ (0 : Int) ∧ (0 : Int) < (2 : Int))] (by kernel_rfl) (And.intro ((by decide : (0 ≤ (0 : Int) ∧ (0 : Int) ≤ ((2 : Nat) : Int) ∧ ((2 : Nat) : Int) ≤ ((2 : Nat) : Int) ∧ ((0 : Int) = 0 ∨ (0 : Int) < ((2 : Nat) : Int)) ∧ 0 + 2 * 1 ≤ 2 ∧ 2 ≤ 9223372036854775807))) (And.intro ((by decide : 0 ≤ (1 : Int) ∧ (1 : Int) < (2 : Int))) ((by decide : 0 ≤ (0 : Int) ∧ (0 : Int) < (2 : Int))))) ?_
  refine awp_sdraw tt_ok mixed (ks := [5, 6]) (hs := []) 6 [5, 6, 14, 19] [(5, .ref 2 0), (6, .ref 3 0)] [.cells [vi p_n.e0, vi p_n.e1], .cells [vi p_m.e0, vi p_m.e1], .cells [vi p_n.e1, vi p_n.e0], .cells [vi p_m.e1, vi p_m.e0]] [(0 ≤ (0 : Int) ∧ (0 : Int) ≤ ((2 : Nat) : Int) ∧ ((2 : Nat) : Int) ≤ ((2 : Nat) : Int) ∧ ((0 : Int) = 0 ∨ (0 : Int) < ((2 : Nat) : Int)) ∧ 0 + 2 * 1 ≤ 2 ∧ 2 ≤ 9223372036854775807), (0 ≤ (1 : Int) ∧ (1 : Int) < (2 : Int)), (0 ≤ (0 : Int) ∧ (0 : Int) < (2 : Int))] (by kernel_rfl) (And.intro ((by decide : (0 ≤ (0 : Int) ∧ (0 : Int) ≤ ((2 : Nat) : Int) ∧ ((2 : Nat) : Int) ≤ ((2 : Nat) : Int) ∧ ((0 : Int) = 0 ∨ (0 : Int) < ((2 : Nat) : Int)) ∧ 0 + 2 * 1 ≤ 2 ∧ 2 ≤ 9223372036854775807))) (And.intro ((by decide : 0 ≤ (1 : Int) ∧ (1 : Int) < (2 : Int))) ((by decide : 0 ≤ (0 : Int) ∧ (0 : Int) < (2 : Int))))) ?_
  obtain ⟨x1, hx1, h⟩ := Option.bind_eq_some_iff.1 h
  refine awp_sreg tt_ok (ks := [4]) (hs := [.no, .no, .call [(.agg [(di p_n.e1), (di p_n.e0)]), (.agg [(di p_m.e1), (di p_m.e0)])] (vi x1)]) [(4, vi x1)] [.cells [vi p_n.e0, vi p_n.e1], .cells [vi p_m.e0, vi p_m.e1], .cells [vi p_n.e1, vi p_n.e0], .cells [vi p_m.e1, vi p_m.e0]] [PCall Try.prog 66 [(.agg [(di p_n.e1), (di p_n.e0)]), (.agg [(di p_m.e1), (di p_m.e0)])] (vi x1)] (by kernel_rfl) (ct66 hx1) ?_
  obtain rfl := Option.some.inj h
  refine awp_wk 4 [4] (by kernel_rfl) [(4, vi x1)] [.cells [vi p_n.e0, vi p_n.e1], .cells [vi p_m.e0, vi p_m.e1], .cells [vi p_n.e1, vi p_n.e0], .cells [vi p_m.e1, vi p_m.e0]] (by kernel_rfl) (by kernel_rfl) ?_
  exact awp_ret (main_ret (by kernel_rfl))

-- hachure/carve.Best.3 H
def F68 (rec25 : Int → Int → S_api_Span → (List S_api_Span) → Int → (List S_api_CvPoint) → (List (S_carve_state × S_carve_rest)) → Bool → Option (S_carve_rest × (List (S_carve_state × S_carve_rest)))) (p_s : S_carve_state) (b0x0 : Int) (b0x1 : List S_api_CvPoint) (m2 : List (S_carve_state × S_carve_rest)) (b4x0 : List S_api_Span) (b7x0 : Bool) : Option (S_carve_rest × (List (S_carve_state × S_carve_rest))) :=
  if (p_s.at_ == (w64 ((b0x1.length : Int) - 1))) then (some ((⟨(⟨0, 0⟩ : S_carve_needs), 0⟩ : S_carve_rest), m2)) else (if (!(mget eqk95 p_s m2).isSome) then ((idx b0x1 p_s.at_).bind fun x3 => (rec25 (w64 (p_s.at_ + 1)) (if (w64 (x3.Board - p_s.high)) > 0 then (w64 (x3.Board - p_s.high)) else 0) (⟨(w64 (p_s.high - b0x0)), (w64 (p_s.high + b0x0))⟩ : S_api_Span) b4x0 b0x0 b0x1 m2 b7x0).bind fun x4 => some ((⟨(⟨x4.1.needs.e0, x4.1.needs.e1⟩ : S_carve_needs), x4.1.next⟩ : S_carve_rest), (mset eqk95 p_s (⟨(⟨x4.1.needs.e0, x4.1.needs.e1⟩ : S_carve_needs), x4.1.next⟩ : S_carve_rest) x4.2))) else (some (((mget eqk95 p_s m2).getD (⟨(⟨0, 0⟩ : S_carve_needs), 0⟩ : S_carve_rest)), m2)))

set_option maxRecDepth 100000 in
theorem ct68 {rec25 : Int → Int → S_api_Span → (List S_api_Span) → Int → (List S_api_CvPoint) → (List (S_carve_state × S_carve_rest)) → Bool → Option (S_carve_rest × (List (S_carve_state × S_carve_rest)))} (hrec25 : ∀ (at_ : Int) (deep : Int) (before : S_api_Span) (b0x0 : List S_api_Span) (b3x0 : Int) (b3x1 : List S_api_CvPoint) (m5 : List (S_carve_state × S_carve_rest)) (b7x0 : Bool) (res : S_carve_rest × (List (S_carve_state × S_carve_rest))), rec25 at_ deep before b0x0 b3x0 b3x1 m5 b7x0 = some res → HCall Try.prog 65 [vi at_, vi deep, .d (.agg [(di before.Lo), (di before.Hi)]), .ref 0 0, .ref 1 0, .ref 7 0] [.cells [.d (L56 b0x0)], .cells [.fn (.func 64) [] [.ref 2 0, .ref 3 0]], .cells [.fn (.func 68) [] [.ref 3 0, .ref 4 0, .ref 6 0]], .cells [vi b3x0, .d (L58 b3x1)], .cells [.mp 5], .map (mpo95x99 m5), .cells [.fn (.func 65) [] [.ref 0 0, .ref 1 0, .ref 7 0]], .cells [vb b7x0]] (.d (.agg [(di res.1.needs.e0), (di res.1.needs.e1), (di res.1.next)])) [.cells [.d (L56 b0x0)], .cells [.fn (.func 64) [] [.ref 2 0, .ref 3 0]], .cells [.fn (.func 68) [] [.ref 3 0, .ref 4 0, .ref 6 0]], .cells [vi b3x0, .d (L58 b3x1)], .cells [.mp 5], .map (mpo95x99 res.2), .cells [.fn (.func 65) [] [.ref 0 0, .ref 1 0, .ref 7 0]], .cells [vb b7x0]]) {p_s : S_carve_state} {b0x0 : Int} {b0x1 : List S_api_CvPoint} {m2 : List (S_carve_state × S_carve_rest)} {b4x0 : List S_api_Span} {b7x0 : Bool} {res : S_carve_rest × (List (S_carve_state × S_carve_rest))} (h : F68 rec25 p_s b0x0 b0x1 m2 b4x0 b7x0 = some res) : HCall Try.prog 68 [.d (.agg [(di p_s.at_), (di p_s.high)]), .ref 0 0, .ref 1 0, .ref 3 0] [.cells [vi b0x0, .d (L58 b0x1)], .cells [.mp 2], .map (mpo95x99 m2), .cells [.fn (.func 65) [] [.ref 4 0, .ref 5 0, .ref 7 0]], .cells [.d (L56 b4x0)], .cells [.fn (.func 64) [] [.ref 6 0, .ref 0 0]], .cells [.fn (.func 68) [] [.ref 0 0, .ref 1 0, .ref 3 0]], .cells [vb b7x0]] (.d (.agg [(di res.1.needs.e0), (di res.1.needs.e1), (di res.1.next)])) [.cells [vi b0x0, .d (L58 b0x1)], .cells [.mp 2], .map (mpo95x99 res.2), .cells [.fn (.func 65) [] [.ref 4 0, .ref 5 0, .ref 7 0]], .cells [.d (L56 b4x0)], .cells [.fn (.func 64) [] [.ref 6 0, .ref 0 0]], .cells [.fn (.func 68) [] [.ref 0 0, .ref 1 0, .ref 3 0]], .cells [vb b7x0]] := by
  refine HCall.of_awpS tt_ok (N := 55) (fl := 8) Try.func68 rfl (by kernel_rfl) rfl rfl (Nat.le_of_ble_eq_true rfl) ?_
  unfold F68 at h
  refine awp_sreg tt_ok (ks := [1, 2, 3, 4, 5]) (hs := []) [(1, .ref 0 0), (2, .ref 1 0), (3, .ref 3 0), (4, .ref 8 0), (5, .ref 9 0)] [.cells [vi b0x0, .d (L58 b0x1)], .cells [.mp 2], .map (mpo95x99 m2), .cells [.fn (.func 65) [] [.ref 4 0, .ref 5 0, .ref 7 0]], .cells [.d (L56 b4x0)], .cells [.fn (.func 64) [] [.ref 6 0, .ref 0 0]], .cells [.fn (.func 68) [] [.ref 0 0, .ref 1 0, .ref 3 0]], .cells [vb b7x0], .cells [vi p_s.at_, vi p_s.high], .cells [vi 0, vi 0, vi 0]] [] (by kernel_rfl) trivial ?_
  refine awp_seq ?_
  refine awp_sreg tt_ok (ks := [1, 2, 3, 4, 5, 14]) (hs := []) [(1, .ref 0 0), (2, .ref 1 0), (3, .ref 3 0), (4, .ref 8 0), (5, .ref 9 0), (14, vb (p_s.at_ == (w64 ((b0x1.length : Int) - 1))))] [.cells [vi b0x0, .d (L58 b0x1)], .cells [.mp 2], .map (mpo95x99 m2), .cells [.fn (.func 65) [] [.ref 4 0, .ref 5 0, .ref 7 0]], .cells [.d (L56 b4x0)], .cells [.fn (.func 64) [] [.ref 6 0, .ref 0 0]], .cells [.fn (.func 68) [] [.ref 0 0, .ref 1 0, .ref 3 0]], .cells [vb b7x0], .cells [vi p_s.at_, vi p_s.high], .cells [vi 0, vi 0, vi 0]] [] (by kernel_rfl) trivial ?_
  refine awp_cond (b := (p_s.at_ == (w64 ((b0x1.length : Int) - 1)))) (by kernel_rfl) (fun hb1 => ?_) (fun hb1 => ?_)
  · rw [if_pos hb1] at h
    refine awp_sreg tt_ok (ks := [5]) (hs := []) [(5, .ref 9 0)] [.cells [vi b0x0, .d (L58 b0x1)], .cells [.mp 2], .map (mpo95x99 m2), .cells [.fn (.func 65) [] [.ref 4 0, .ref 5 0, .ref 7 0]], .cells [.d (L56 b4x0)], .cells [.fn (.func 64) [] [.ref 6 0, .ref 0 0]], .cells [.fn (.func 68) [] [.ref 0 0, .ref 1 0, .ref 3 0]], .cells [vb b7x0], .cells [vi p_s.at_, vi p_s.high], .cells [vi 0, vi 0, vi 0]] [] (by kernel_rfl) trivial ?_
    obtain rfl := Option.some.inj h
    refine awp_wk 10 [5] (by kernel_rfl) [(5, .ref 9 0)] [.cells [vi b0x0, .d (L58 b0x1)], .cells [.mp 2], .map (mpo95x99 m2), .cells [.fn (.func 65) [] [.ref 4 0, .ref 5 0, .ref 7 0]], .cells [.d (L56 b4x0)], .cells [.fn (.func 64) [] [.ref 6 0, .ref 0 0]], .cells [.fn (.func 68) [] [.ref 0 0, .ref 1 0, .ref 3 0]], .cells [vb b7x0], .cells [vi p_s.at_, vi p_s.high], .cells [vi 0, vi 0, vi 0]] (by kernel_rfl) (by kernel_rfl) ?_
    exact awp_ret (main_retS [0, 1, 2, 3, 4, 5, 6, 7] (.d (.agg [(di 0), (di 0), (di 0)])) (by kernel_rfl) (by kernel_rfl) (by kernel_rfl) (by kernel_rfl))
  · rw [if_neg (ntrue hb1)] at h
    refine awp_skip ?_
    show awp _ _ _ _ _ _ _ _
    refine awp_sreg tt_ok (ks := [1, 2, 3, 4, 5, 6, 7]) (hs := [.no, .no, .look (.agg [(di ((mget eqk95 p_s m2).getD (⟨(⟨0, 0⟩ : S_carve_needs), 0⟩ : S_carve_rest)).needs.e0), (di ((mget eqk95 p_s m2).getD (⟨(⟨0, 0⟩ : S_carve_needs), 0⟩ : S_carve_rest)).needs.e1), (di ((mget eqk95 p_s m2).getD (⟨(⟨0, 0⟩ : S_carve_needs), 0⟩ : S_carve_rest)).next)]) (mget eqk95 p_s m2).isSome]) [(1, .ref 0 0), (2, .ref 1 0), (3, .ref 3 0), (4, .ref 8 0), (5, .ref 9 0), (6, .ref 10 0), (7, vb (mget eqk95 p_s m2).isSome)] [.cells [vi b0x0, .d (L58 b0x1)], .cells [.mp 2], .map (mpo95x99 m2), .cells [.fn (.func 65) [] [.ref 4 0, .ref 5 0, .ref 7 0]], .cells [.d (L56 b4x0)], .cells [.fn (.func 64) [] [.ref 6 0, .ref 0 0]], .cells [.fn (.func 68) [] [.ref 0 0, .ref 1 0, .ref 3 0]], .cells [vb b7x0], .cells [vi p_s.at_, vi p_s.high], .cells [vi 0, vi 0, vi 0], .cells [vi ((mget eqk95 p_s m2).getD (⟨(⟨0, 0⟩ : S_carve_needs), 0⟩ : S_carve_rest)).needs.e0, vi ((mget eqk95 p_s m2).getD (⟨(⟨0, 0⟩ : S_carve_needs), 0⟩ : S_carve_rest)).needs.e1, vi ((mget eqk95 p_s m2).getD (⟨(⟨0, 0⟩ : S_carve_needs), 0⟩ : S_carve_rest)).next]] [LookOk (mpo95x99 m2) (.agg [(di p_s.at_), (di p_s.high)]) (.agg [(di 0), (di 0), (di 0)]) (.agg [(di ((mget eqk95 p_s m2).getD (⟨(⟨0, 0⟩ : S_carve_needs), 0⟩ : S_carve_rest)).needs.e0), (di ((mget eqk95 p_s m2).getD (⟨(⟨0, 0⟩ : S_carve_needs), 0⟩ : S_carve_rest)).needs.e1), (di ((mget eqk95 p_s m2).getD (⟨(⟨0, 0⟩ : S_carve_needs), 0⟩ : S_carve_rest)).next)]) (mget eqk95 p_s m2).isSome] (by kernel_rfl) (lookOk (fk := dat95) (fv := dat99) eqk95_ok rfl p_s m2) ?_
    refine awp_seq ?_
    refine awp_sreg tt_ok (ks := [1, 2, 3, 4, 5, 6, 23]) (hs := []) [(1, .ref 0 0), (2, .ref 1 0), (3, .ref 3 0), (4, .ref 8 0), (5, .ref 9 0), (6, .ref 10 0), (23, vb (!(mget eqk95 p_s m2).isSome))] [.cells [vi b0x0, .d (L58 b0x1)], .cells [.mp 2], .map (mpo95x99 m2), .cells [.fn (.func 65) [] [.ref 4 0, .ref 5 0, .ref 7 0]], .cells [.d (L56 b4x0)], .cells [.fn (.func 64) [] [.ref 6 0, .ref 0 0]], .cells [.fn (.func 68) [] [.ref 0 0, .ref 1 0, .ref 3 0]], .cells [vb b7x0], .cells [vi p_s.at_, vi p_s.high], .cells [vi 0, vi 0, vi 0], .cells [vi ((mget eqk95 p_s m2).getD (⟨(⟨0, 0⟩ : S_carve_needs), 0⟩ : S_carve_rest)).needs.e0, vi ((mget eqk95 p_s m2).getD (⟨(⟨0, 0⟩ : S_carve_needs), 0⟩ : S_carve_rest)).needs.e1, vi ((mget eqk95 p_s m2).getD (⟨(⟨0, 0⟩ : S_carve_needs), 0⟩ : S_carve_rest)).next]] [] (by kernel_rfl) trivial ?_
    refine awp_cond (b := (!(mget eqk95 p_s m2).isSome)) (by kernel_rfl) (fun hb2 => ?_) (fun hb2 => ?_)
    · rw [if_pos hb2] at h
      obtain ⟨x3, hx3, h⟩ := Option.bind_eq_some_iff.1 h
      obtain ⟨x4, hx4, h⟩ := Option.bind_eq_some_iff.1 h
      refine awp_sdraw tt_ok mixed (ks := [2, 4, 5, 6]) (hs := [.no, .no, .no, .no, .no, .no, .no, .no, .cells (cel58 x3), .no, .no, .no, .no, .no, .no, .no, .no, .no, .no, .no, .no, .no, .no, .no, .no, .no, .hcall [(4, false), (5, false), (6, false), (0, false), (1, false), (2, false), (3, false), (7, false)] (.d (.agg [(di x4.1.needs.e0), (di x4.1.needs.e1), (di x4.1.next)])) [.cells [.d (L56 b4x0)], .cells [.fn (.func 64) [] [.ref 2 0, .ref 3 0]], .cells [.fn (.func 68) [] [.ref 3 0, .ref 4 0, .ref 6 0]], .cells [vi b0x0, .d (L58 b0x1)], .cells [.mp 5], .map (mpo95x99 x4.2), .cells [.fn (.func 65) [] [.ref 0 0, .ref 1 0, .ref 7 0]], .cells [vb b7x0]]]) 26 [2, 4, 5, 6, 24, 27, 38, 49, 50] [(2, .ref 1 0), (4, .ref 8 0), (5, .ref 9 0), (6, .ref 10 0)] [.cells [vi b0x0, .d (L58 b0x1)], .cells [.mp 2], .map (mpo95x99 x4.2), .cells [.fn (.func 65) [] [.ref 4 0, .ref 5 0, .ref 7 0]], .cells [.d (L56 b4x0)], .cells [.fn (.func 64) [] [.ref 6 0, .ref 0 0]], .cells [.fn (.func 68) [] [.ref 0 0, .ref 1 0, .ref 3 0]], .cells [vb b7x0], .cells [vi p_s.at_, vi p_s.high], .cells [vi 0, vi 0, vi 0], .cells [vi x4.1.needs.e0, vi x4.1.needs.e1, vi x4.1.next]] [IX58 b0x1 p_s.at_ x3, HCall Try.prog 65 [vi (w64 (p_s.at_ + 1)), vi (if (w64 (x3.Board - p_s.high)) > 0 then (w64 (x3.Board - p_s.high)) else 0), .d (.agg [(di (w64 (p_s.high - b0x0))), (di (w64 (p_s.high + b0x0)))]), .ref 0 0, .ref 1 0, .ref 7 0] [.cells [.d (L56 b4x0)], .cells [.fn (.func 64) [] [.ref 2 0, .ref 3 0]], .cells [.fn (.func 68) [] [.ref 3 0, .ref 4 0, .ref 6 0]], .cells [vi b0x0, .d (L58 b0x1)], .cells [.mp 5], .map (mpo95x99 m2), .cells [.fn (.func 65) [] [.ref 0 0, .ref 1 0, .ref 7 0]], .cells [vb b7x0]] (.d (.agg [(di x4.1.needs.e0), (di x4.1.needs.e1), (di x4.1.next)])) [.cells [.d (L56 b4x0)], .cells [.fn (.func 64) [] [.ref 2 0, .ref 3 0]], .cells [.fn (.func 68) [] [.ref 3 0, .ref 4 0, .ref 6 0]], .cells [vi b0x0, .d (L58 b0x1)], .cells [.mp 5], .map (mpo95x99 x4.2), .cells [.fn (.func 65) [] [.ref 0 0, .ref 1 0, .ref 7 0]], .cells [vb b7x0]]] (by kernel_rfl) (And.intro (idxOk cel58_len hx3) (hrec25 _ _ _ _ _ _ _ _ _ hx4)) ?_
      refine awp_region (T' := [(5, .ref 9 0), (6, .ref 10 0)]) (H' := [.cells [vi b0x0, .d (L58 b0x1)], .cells [.mp 2], .map (mpo95x99 (mset eqk95 p_s (⟨(⟨x4.1.needs.e0, x4.1.needs.e1⟩ : S_carve_needs), x4.1.next⟩ : S_carve_rest) x4.2)), .cells [.fn (.func 65) [] [.ref 4 0, .ref 5 0, .ref 7 0]], .cells [.d (L56 b4x0)], .cells [.fn (.func 64) [] [.ref 6 0, .ref 0 0]], .cells [.fn (.func 68) [] [.ref 0 0, .ref 1 0, .ref 3 0]], .cells [vb b7x0], .cells [vi p_s.at_, vi p_s.high], .cells [vi 0, vi 0, vi 0], .cells [vi x4.1.needs.e0, vi x4.1.needs.e1, vi x4.1.next]]) (ps := [(setD (.agg [(di p_s.at_), (di p_s.high)]) (.agg [(di x4.1.needs.e0), (di x4.1.needs.e1), (di x4.1.next)]) (mpo95x99 x4.2) = some (mpo95x99 (mset eqk95 p_s (⟨(⟨x4.1.needs.e0, x4.1.needs.e1⟩ : S_carve_needs), x4.1.next⟩ : S_carve_rest) x4.2)))]) tt_ok (ks := [5, 6]) (hs := [.no, .no, .no, .kvs (mpo95x99 (mset eqk95 p_s (⟨(⟨x4.1.needs.e0, x4.1.needs.e1⟩ : S_carve_needs), x4.1.next⟩ : S_carve_rest) x4.2))]) (by kernel_rfl) (setOk (fk := dat95) (fv := dat99) eqk95_ok p_s (⟨(⟨x4.1.needs.e0, x4.1.needs.e1⟩ : S_carve_needs), x4.1.next⟩ : S_carve_rest) x4.2) ?_
      show awp _ _ _ _ _ _ _ _
      refine awp_sreg tt_ok (ks := [5]) (hs := []) [(5, .ref 9 0)] [.cells [vi b0x0, .d (L58 b0x1)], .cells [.mp 2], .map (mpo95x99 (mset eqk95 p_s (⟨(⟨x4.1.needs.e0, x4.1.needs.e1⟩ : S_carve_needs), x4.1.next⟩ : S_carve_rest) x4.2)), .cells [.fn (.func 65) [] [.ref 4 0, .ref 5 0, .ref 7 0]], .cells [.d (L56 b4x0)], .cells [.fn (.func 64) [] [.ref 6 0, .ref 0 0]], .cells [.fn (.func 68) [] [.ref 0 0, .ref 1 0, .ref 3 0]], .cells [vb b7x0], .cells [vi p_s.at_, vi p_s.high], .cells [vi x4.1.needs.e0, vi x4.1.needs.e1, vi x4.1.next], .cells [vi x4.1.needs.e0, vi x4.1.needs.e1, vi x4.1.next]] [] (by kernel_rfl) trivial ?_
      obtain rfl := Option.some.inj h
      refine awp_wk 11 [5] (by kernel_rfl) [(5, .ref 9 0)] [.cells [vi b0x0, .d (L58 b0x1)], .cells [.mp 2], .map (mpo95x99 (mset eqk95 p_s (⟨(⟨x4.1.needs.e0, x4.1.needs.e1⟩ : S_carve_needs), x4.1.next⟩ : S_carve_rest) x4.2)), .cells [.fn (.func 65) [] [.ref 4 0, .ref 5 0, .ref 7 0]], .cells [.d (L56 b4x0)], .cells [.fn (.func 64) [] [.ref 6 0, .ref 0 0]], .cells [.fn (.func 68) [] [.ref 0 0, .ref 1 0, .ref 3 0]], .cells [vb b7x0], .cells [vi p_s.at_, vi p_s.high], .cells [vi x4.1.needs.e0, vi x4.1.needs.e1, vi x4.1.next], .cells [vi x4.1.needs.e0, vi x4.1.needs.e1, vi x4.1.next]] (by kernel_rfl) (by kernel_rfl) ?_
      exact awp_ret (main_retS [0, 1, 2, 3, 4, 5, 6, 7] (.d (.agg [(di x4.1.needs.e0), (di x4.1.needs.e1), (di x4.1.next)])) (by kernel_rfl) (by kernel_rfl) (by kernel_rfl) (by kernel_rfl))
    · rw [if_neg (ntrue hb2)] at h
      refine awp_skip ?_
      show awp _ _ _ _ _ _ _ _
      refine awp_sreg tt_ok (ks := [5]) (hs := []) [(5, .ref 9 0)] [.cells [vi b0x0, .d (L58 b0x1)], .cells [.mp 2], .map (mpo95x99 m2), .cells [.fn (.func 65) [] [.ref 4 0, .ref 5 0, .ref 7 0]], .cells [.d (L56 b4x0)], .cells [.fn (.func 64) [] [.ref 6 0, .ref 0 0]], .cells [.fn (.func 68) [] [.ref 0 0, .ref 1 0, .ref 3 0]], .cells [vb b7x0], .cells [vi p_s.at_, vi p_s.high], .cells [vi ((mget eqk95 p_s m2).getD (⟨(⟨0, 0⟩ : S_carve_needs), 0⟩ : S_carve_rest)).needs.e0, vi ((mget eqk95 p_s m2).getD (⟨(⟨0, 0⟩ : S_carve_needs), 0⟩ : S_carve_rest)).needs.e1, vi ((mget eqk95 p_s m2).getD (⟨(⟨0, 0⟩ : S_carve_needs), 0⟩ : S_carve_rest)).next], .cells [vi ((mget eqk95 p_s m2).getD (⟨(⟨0, 0⟩ : S_carve_needs), 0⟩ : S_carve_rest)).needs.e0, vi ((mget eqk95 p_s m2).getD (⟨(⟨0, 0⟩ : S_carve_needs), 0⟩ : S_carve_rest)).needs.e1, vi ((mget eqk95 p_s m2).getD (⟨(⟨0, 0⟩ : S_carve_needs), 0⟩ : S_carve_rest)).next]] [] (by kernel_rfl) trivial ?_
      obtain rfl := Option.some.inj h
      refine awp_wk 11 [5] (by kernel_rfl) [(5, .ref 9 0)] [.cells [vi b0x0, .d (L58 b0x1)], .cells [.mp 2], .map (mpo95x99 m2), .cells [.fn (.func 65) [] [.ref 4 0, .ref 5 0, .ref 7 0]], .cells [.d (L56 b4x0)], .cells [.fn (.func 64) [] [.ref 6 0, .ref 0 0]], .cells [.fn (.func 68) [] [.ref 0 0, .ref 1 0, .ref 3 0]], .cells [vb b7x0], .cells [vi p_s.at_, vi p_s.high], .cells [vi ((mget eqk95 p_s m2).getD (⟨(⟨0, 0⟩ : S_carve_needs), 0⟩ : S_carve_rest)).needs.e0, vi ((mget eqk95 p_s m2).getD (⟨(⟨0, 0⟩ : S_carve_needs), 0⟩ : S_carve_rest)).needs.e1, vi ((mget eqk95 p_s m2).getD (⟨(⟨0, 0⟩ : S_carve_needs), 0⟩ : S_carve_rest)).next], .cells [vi ((mget eqk95 p_s m2).getD (⟨(⟨0, 0⟩ : S_carve_needs), 0⟩ : S_carve_rest)).needs.e0, vi ((mget eqk95 p_s m2).getD (⟨(⟨0, 0⟩ : S_carve_needs), 0⟩ : S_carve_rest)).needs.e1, vi ((mget eqk95 p_s m2).getD (⟨(⟨0, 0⟩ : S_carve_needs), 0⟩ : S_carve_rest)).next]] (by kernel_rfl) (by kernel_rfl) ?_
      exact awp_ret (main_retS [0, 1, 2, 3, 4, 5, 6, 7] (.d (.agg [(di ((mget eqk95 p_s m2).getD (⟨(⟨0, 0⟩ : S_carve_needs), 0⟩ : S_carve_rest)).needs.e0), (di ((mget eqk95 p_s m2).getD (⟨(⟨0, 0⟩ : S_carve_needs), 0⟩ : S_carve_rest)).needs.e1), (di ((mget eqk95 p_s m2).getD (⟨(⟨0, 0⟩ : S_carve_needs), 0⟩ : S_carve_rest)).next)])) (by kernel_rfl) (by kernel_rfl) (by kernel_rfl) (by kernel_rfl))

-- hachure/carve.Best.1 H
def F64 (rec25 : Int → Int → S_api_Span → (List S_api_Span) → Int → (List S_api_CvPoint) → (List (S_carve_state × S_carve_rest)) → Bool → Option (S_carve_rest × (List (S_carve_state × S_carve_rest)))) (p_s : S_carve_state) (deep : Int) (b1x0 : Int) (b1x1 : List S_api_CvPoint) (m3 : List (S_carve_state × S_carve_rest)) (b5x0 : List S_api_Span) (b7x0 : Bool) : Option (S_carve_needs × (List (S_carve_state × S_carve_rest))) :=
  (F68 rec25 p_s b1x0 b1x1 m3 b5x0 b7x0).bind fun x1 => (idx b1x1 p_s.at_).bind fun x2 => some ((⟨(w64 (x1.1.needs.e0 + (if (w64 (p_s.high - x2.Board)) > 0 then (w64 (p_s.high - x2.Board)) else 0))), (w64 (x1.1.needs.e1 + (if (w64 ((if (w64 (x2.Board - p_s.high)) > 0 then (w64 (x2.Board - p_s.high)) else 0) - deep)) > 0 then (w64 ((if (w64 (x2.Board - p_s.high)) > 0 then (w64 (x2.Board - p_s.high)) else 0) - deep)) else 0)))⟩ : S_carve_needs), x1.2)

set_option maxRecDepth 100000 in
theorem ct64 {rec25 : Int → Int → S_api_Span → (List S_api_Span) → Int → (List S_api_CvPoint) → (List (S_carve_state × S_carve_rest)) → Bool → Option (S_carve_rest × (List (S_carve_state × S_carve_rest)))} (hrec25 : ∀ (at_ : Int) (deep : Int) (before : S_api_Span) (b0x0 : List S_api_Span) (b3x0 : Int) (b3x1 : List S_api_CvPoint) (m5 : List (S_carve_state × S_carve_rest)) (b7x0 : Bool) (res : S_carve_rest × (List (S_carve_state × S_carve_rest))), rec25 at_ deep before b0x0 b3x0 b3x1 m5 b7x0 = some res → HCall Try.prog 65 [vi at_, vi deep, .d (.agg [(di before.Lo), (di before.Hi)]), .ref 0 0, .ref 1 0, .ref 7 0] [.cells [.d (L56 b0x0)], .cells [.fn (.func 64) [] [.ref 2 0, .ref 3 0]], .cells [.fn (.func 68) [] [.ref 3 0, .ref 4 0, .ref 6 0]], .cells [vi b3x0, .d (L58 b3x1)], .cells [.mp 5], .map (mpo95x99 m5), .cells [.fn (.func 65) [] [.ref 0 0, .ref 1 0, .ref 7 0]], .cells [vb b7x0]] (.d (.agg [(di res.1.needs.e0), (di res.1.needs.e1), (di res.1.next)])) [.cells [.d (L56 b0x0)], .cells [.fn (.func 64) [] [.ref 2 0, .ref 3 0]], .cells [.fn (.func 68) [] [.ref 3 0, .ref 4 0, .ref 6 0]], .cells [vi b3x0, .d (L58 b3x1)], .cells [.mp 5], .map (mpo95x99 res.2), .cells [.fn (.func 65) [] [.ref 0 0, .ref 1 0, .ref 7 0]], .cells [vb b7x0]]) {p_s : S_carve_state} {deep : Int} {b1x0 : Int} {b1x1 : List S_api_CvPoint} {m3 : List (S_carve_state × S_carve_rest)} {b5x0 : List S_api_Span} {b7x0 : Bool} {res : S_carve_needs × (List (S_carve_state × S_carve_rest))} (h : F64 rec25 p_s deep b1x0 b1x1 m3 b5x0 b7x0 = some res) : HCall Try.prog 64 [.d (.agg [(di p_s.at_), (di p_s.high)]), vi deep, .ref 0 0, .ref 1 0] [.cells [.fn (.func 68) [] [.ref 1 0, .ref 2 0, .ref 4 0]], .cells [vi b1x0, .d (L58 b1x1)], .cells [.mp 3], .map (mpo95x99 m3), .cells [.fn (.func 65) [] [.ref 5 0, .ref 6 0, .ref 7 0]], .cells [.d (L56 b5x0)], .cells [.fn (.func 64) [] [.ref 0 0, .ref 1 0]], .cells [vb b7x0]] (.d (.agg [(di res.1.e0), (di res.1.e1)])) [.cells [.fn (.func 68) [] [.ref 1 0, .ref 2 0, .ref 4 0]], .cells [vi b1x0, .d (L58 b1x1)], .cells [.mp 3], .map (mpo95x99 res.2), .cells [.fn (.func 65) [] [.ref 5 0, .ref 6 0, .ref 7 0]], .cells [.d (L56 b5x0)], .cells [.fn (.func 64) [] [.ref 0 0, .ref 1 0]], .cells [vb b7x0]] := by
  refine HCall.of_awpS tt_ok (N := 42) (fl := 8) Try.func64 rfl (by kernel_rfl) rfl rfl (Nat.le_of_ble_eq_true rfl) ?_
  unfold F64 at h
  refine awp_sreg tt_ok (ks := [1, 2, 3, 4, 6]) (hs := []) [(1, vi deep), (2, .ref 0 0), (3, .ref 1 0), (4, .ref 8 0), (6, .ref 9 0)] [.cells [.fn (.func 68) [] [.ref 1 0, .ref 2 0, .ref 4 0]], .cells [vi b1x0, .d (L58 b1x1)], .cells [.mp 3], .map (mpo95x99 m3), .cells [.fn (.func 65) [] [.ref 5 0, .ref 6 0, .ref 7 0]], .cells [.d (L56 b5x0)], .cells [.fn (.func 64) [] [.ref 0 0, .ref 1 0]], .cells [vb b7x0], .cells [vi p_s.at_, vi p_s.high], .cells [vi 0, vi 0]] [] (by kernel_rfl) trivial ?_
  obtain ⟨x1, hx1, h⟩ := Option.bind_eq_some_iff.1 h
  refine awp_sreg tt_ok (ks := [1, 3, 4, 6, 7]) (hs := [.no, .no, .hcall [(1, false), (2, false), (3, false), (4, false), (5, false), (6, false), (0, false), (7, false)] (.d (.agg [(di x1.1.needs.e0), (di x1.1.needs.e1), (di x1.1.next)])) [.cells [vi b1x0, .d (L58 b1x1)], .cells [.mp 2], .map (mpo95x99 x1.2), .cells [.fn (.func 65) [] [.ref 4 0, .ref 5 0, .ref 7 0]], .cells [.d (L56 b5x0)], .cells [.fn (.func 64) [] [.ref 6 0, .ref 0 0]], .cells [.fn (.func 68) [] [.ref 0 0, .ref 1 0, .ref 3 0]], .cells [vb b7x0]]]) [(1, vi deep), (3, .ref 1 0), (4, .ref 8 0), (6, .ref 9 0), (7, .ref 10 0)] [.cells [.fn (.func 68) [] [.ref 1 0, .ref 2 0, .ref 4 0]], .cells [vi b1x0, .d (L58 b1x1)], .cells [.mp 3], .map (mpo95x99 x1.2), .cells [.fn (.func 65) [] [.ref 5 0, .ref 6 0, .ref 7 0]], .cells [.d (L56 b5x0)], .cells [.fn (.func 64) [] [.ref 0 0, .ref 1 0]], .cells [vb b7x0], .cells [vi p_s.at_, vi p_s.high], .cells [vi 0, vi 0], .cells [vi x1.1.needs.e0, vi x1.1.needs.e1]] [HCall Try.prog 68 [.d (.agg [(di p_s.at_), (di p_s.high)]), .ref 0 0, .ref 1 0, .ref 3 0] [.cells [vi b1x0, .d (L58 b1x1)], .cells [.mp 2], .map (mpo95x99 m3), .cells [.fn (.func 65) [] [.ref 4 0, .ref 5 0, .ref 7 0]], .cells [.d (L56 b5x0)], .cells [.fn (.func 64) [] [.ref 6 0, .ref 0 0]], .cells [.fn (.func 68) [] [.ref 0 0, .ref 1 0, .ref 3 0]], .cells [vb b7x0]] (.d (.agg [(di x1.1.needs.e0), (di x1.1.needs.e1), (di x1.1.next)])) [.cells [vi b1x0, .d (L58 b1x1)], .cells [.mp 2], .map (mpo95x99 x1.2), .cells [.fn (.func 65) [] [.ref 4 0, .ref 5 0, .ref 7 0]], .cells [.d (L56 b5x0)], .cells [.fn (.func 64) [] [.ref 6 0, .ref 0 0]], .cells [.fn (.func 68) [] [.ref 0 0, .ref 1 0, .ref 3 0]], .cells [vb b7x0]]] (by kernel_rfl) (ct68 hrec25 hx1) ?_
  obtain ⟨x2, hx2, h⟩ := Option.bind_eq_some_iff.1 h
  refine awp_sreg tt_ok (ks := [1, 4, 6, 7, 8]) (hs := [.no, .no, .no, .no, .cells (cel58 x2)]) [(1, vi deep), (4, .ref 8 0), (6, .ref 9 0), (7, .ref 10 0), (8, vi x2.Board)] [.cells [.fn (.func 68) [] [.ref 1 0, .ref 2 0, .ref 4 0]], .cells [vi b1x0, .d (L58 b1x1)], .cells [.mp 3], .map (mpo95x99 x1.2), .cells [.fn (.func 65) [] [.ref 5 0, .ref 6 0, .ref 7 0]], .cells [.d (L56 b5x0)], .cells [.fn (.func 64) [] [.ref 0 0, .ref 1 0]], .cells [vb b7x0], .cells [vi p_s.at_, vi p_s.high], .cells [vi 0, vi 0], .cells [vi x1.1.needs.e0, vi x1.1.needs.e1]] [IX58 b1x1 p_s.at_ x2] (by kernel_rfl) (idxOk cel58_len hx2) ?_
  refine awp_sreg tt_ok (ks := [1, 4, 6, 7, 8]) (hs := []) [(1, vi deep), (4, .ref 8 0), (6, .ref 9 0), (7, .ref 10 0), (8, vi x2.Board)] [.cells [.fn (.func 68) [] [.ref 1 0, .ref 2 0, .ref 4 0]], .cells [vi b1x0, .d (L58 b1x1)], .cells [.mp 3], .map (mpo95x99 x1.2), .cells [.fn (.func 65) [] [.ref 5 0, .ref 6 0, .ref 7 0]], .cells [.d (L56 b5x0)], .cells [.fn (.func 64) [] [.ref 0 0, .ref 1 0]], .cells [vb b7x0], .cells [vi p_s.at_, vi p_s.high], .cells [vi 0, vi 0], .cells [vi (w64 (x1.1.needs.e0 + (if (w64 (p_s.high - x2.Board)) > 0 then (w64 (p_s.high - x2.Board)) else 0))), vi x1.1.needs.e1]] [(0 ≤ (0 : Int) ∧ (0 : Int) < (2 : Int)), (0 ≤ (0 : Int) ∧ (0 : Int) < (2 : Int))] (by kernel_rfl) (And.intro ((by decide : 0 ≤ (0 : Int) ∧ (0 : Int) < (2 : Int))) ((by decide : 0 ≤ (0 : Int) ∧ (0 : Int) < (2 : Int)))) ?_
  refine awp_sreg tt_ok (ks := [6, 7]) (hs := []) [(6, .ref 9 0), (7, .ref 10 0)] [.cells [.fn (.func 68) [] [.ref 1 0, .ref 2 0, .ref 4 0]], .cells [vi b1x0, .d (L58 b1x1)], .cells [.mp 3], .map (mpo95x99 x1.2), .cells [.fn (.func 65) [] [.ref 5 0, .ref 6 0, .ref 7 0]], .cells [.d (L56 b5x0)], .cells [.fn (.func 64) [] [.ref 0 0, .ref 1 0]], .cells [vb b7x0], .cells [vi p_s.at_, vi p_s.high], .cells [vi 0, vi 0], .cells [vi (w64 (x1.1.needs.e0 + (if (w64 (p_s.high - x2.Board)) > 0 then (w64 (p_s.high - x2.Board)) else 0))), vi (w64 (x1.1.needs.e1 + (if (w64 ((if (w64 (x2.Board - p_s.high)) > 0 then (w64 (x2.Board - p_s.high)) else 0) - deep)) > 0 then (w64 ((if (w64 (x2.Board - p_s.high)) > 0 then (w64 (x2.Board - p_s.high)) else 0) - deep)) else 0)))]] [(0 ≤ (1 : Int) ∧ (1 : Int) < (2 : Int)), (0 ≤ (1 : Int) ∧ (1 : Int) < (2 : Int))] (by kernel_rfl) (And.intro ((by decide : 0 ≤ (1 : Int) ∧ (1 : Int) < (2 : Int))) ((by decide : 0 ≤ (1 : Int) ∧ (1 : Int) < (2 : Int)))) ?_
  refine awp_sreg tt_ok (ks := [6]) (hs := []) [(6, .ref 9 0)] [.cells [.fn (.func 68) [] [.ref 1 0, .ref 2 0, .ref 4 0]], .cells [vi b1x0, .d (L58 b1x1)], .cells [.mp 3], .map (mpo95x99 x1.2), .cells [.fn (.func 65) [] [.ref 5 0, .ref 6 0, .ref 7 0]], .cells [.d (L56 b5x0)], .cells [.fn (.func 64) [] [.ref 0 0, .ref 1 0]], .cells [vb b7x0], .cells [vi p_s.at_, vi p_s.high], .cells [vi (w64 (x1.1.needs.e0 + (if (w64 (p_s.high - x2.Board)) > 0 then (w64 (p_s.high - x2.Board)) else 0))), vi (w64 (x1.1.needs.e1 + (if (w64 ((if (w64 (x2.Board - p_s.high)) > 0 then (w64 (x2.Board - p_s.high)) else 0) - deep)) > 0 then (w64 ((if (w64 (x2.Board - p_s.high)) > 0 then (w64 (x2.Board - p_s.high)) else 0) - deep)) else 0)))], .cells [vi (w64 (x1.1.needs.e0 + (if (w64 (p_s.high - x2.Board)) > 0 then (w64 (p_s.high - x2.Board)) else 0))), vi (w64 (x1.1.needs.e1 + (if (w64 ((if (w64 (x2.Board - p_s.high)) > 0 then (w64 (x2.Board - p_s.high)) else 0) - deep)) > 0 then (w64 ((if (w64 (x2.Board - p_s.high)) > 0 then (w64 (x2.Board - p_s.high)) else 0) - deep)) else 0)))]] [] (by kernel_rfl) trivial ?_
  obtain rfl := Option.some.inj h
  refine awp_wk 11 [6] (by kernel_rfl) [(6, .ref 9 0)] [.cells [.fn (.func 68) [] [.ref 1 0, .ref 2 0, .ref 4 0]], .cells [vi b1x0, .d (L58 b1x1)], .cells [.mp 3], .map (mpo95x99 x1.2), .cells [.fn (.func 65) [] [.ref 5 0, .ref 6 0, .ref 7 0]], .cells [.d (L56 b5x0)], .cells [.fn (.func 64) [] [.ref 0 0, .ref 1 0]], .cells [vb b7x0], .cells [vi p_s.at_, vi p_s.high], .cells [vi (w64 (x1.1.needs.e0 + (if (w64 (p_s.high - x2.Board)) > 0 then (w64 (p_s.high - x2.Board)) else 0))), vi (w64 (x1.1.needs.e1 + (if (w64 ((if (w64 (x2.Board - p_s.high)) > 0 then (w64 (x2.Board - p_s.high)) else 0) - deep)) > 0 then (w64 ((if (w64 (x2.Board - p_s.high)) > 0 then (w64 (x2.Board - p_s.high)) else 0) - deep)) else 0)))], .cells [vi (w64 (x1.1.needs.e0 + (if (w64 (p_s.high - x2.Board)) > 0 then (w64 (p_s.high - x2.Board)) else 0))), vi (w64 (x1.1.needs.e1 + (if (w64 ((if (w64 (x2.Board - p_s.high)) > 0 then (w64 (x2.Board - p_s.high)) else 0) - deep)) > 0 then (w64 ((if (w64 (x2.Board - p_s.high)) > 0 then (w64 (x2.Board - p_s.high)) else 0) - deep)) else 0)))]] (by kernel_rfl) (by kernel_rfl) ?_
  exact awp_ret (main_retS [0, 1, 2, 3, 4, 5, 6, 7] (.d (.agg [(di (w64 (x1.1.needs.e0 + (if (w64 (p_s.high - x2.Board)) > 0 then (w64 (p_s.high - x2.Board)) else 0)))), (di (w64 (x1.1.needs.e1 + (if (w64 ((if (w64 (x2.Board - p_s.high)) > 0 then (w64 (x2.Board - p_s.high)) else 0) - deep)) > 0 then (w64 ((if (w64 (x2.Board - p_s.high)) > 0 then (w64 (x2.Board - p_s.high)) else 0) - deep)) else 0))))])) (by kernel_rfl) (by kernel_rfl) (by kernel_rfl) (by kernel_rfl))

-- hachure/carve.Best.2 H
def F65L1 (fuel : Nat) (rec25 : Int → Int → S_api_Span → (List S_api_Span) → Int → (List S_api_CvPoint) → (List (S_carve_state × S_carve_rest)) → Bool → Option (S_carve_rest × (List (S_carve_state × S_carve_rest)))) (at_ : Int) (deep : Int) (before : S_api_Span) (b0x0 : List S_api_Span) (b3x0 : Int) (b3x1 : List S_api_CvPoint) (b7x0 : Bool) (x1 : S_api_Span) (x2 : S_api_Span) : Nat → (Bool × Int × (List (S_carve_state × S_carve_rest)) × Int × Int × Int) → Option ((S_carve_rest × (List (S_carve_state × S_carve_rest))) ⊕ ((List (S_carve_state × S_carve_rest)) × Int × Int × Int))
  | 0, _ => none
  | n5 + 1, c4 => if (decide (c4.2.1 < (w64 ((w64 (x1.Hi - x2.Lo)) + 1)))) then ((idx b0x0 at_).bind fun x7 => (F49 fuel before.Lo before.Hi ([(w64 (x7.Lo + c4.2.1))] : List Int)).bind fun x8 => if x8 then (F65L1 fuel rec25 at_ deep before b0x0 b3x0 b3x1 b7x0 x1 x2 n5 (c4.1, (w64 (c4.2.1 + 1)), c4.2.2.1, c4.2.2.2.1, c4.2.2.2.2.1, c4.2.2.2.2.2)) else ((F64 rec25 (⟨at_, (w64 (x7.Lo + c4.2.1))⟩ : S_carve_state) deep b3x0 b3x1 c4.2.2.1 b0x0 b7x0).bind fun x10 => if b7x0 then ((optG (!(!c4.1)) (F67 fuel (⟨x10.1.e0, x10.1.e1⟩ : S_carve_needs) (⟨c4.2.2.2.1, c4.2.2.2.2.1⟩ : S_carve_needs))).bind fun x13 => if (cond (!c4.1) true (decide (x13 < 0))) then (F65L1 fuel rec25 at_ deep before b0x0 b3x0 b3x1 b7x0 x1 x2 n5 (true, (w64 (c4.2.1 + 1)), x10.2, x10.1.e0, x10.1.e1, (w64 (x7.Lo + c4.2.1)))) else (F65L1 fuel rec25 at_ deep before b0x0 b3x0 b3x1 b7x0 x1 x2 n5 (c4.1, (w64 (c4.2.1 + 1)), x10.2, c4.2.2.2.1, c4.2.2.2.2.1, c4.2.2.2.2.2))) else ((optG (!(!c4.1)) (F66 fuel (⟨x10.1.e0, x10.1.e1⟩ : S_carve_needs) (⟨c4.2.2.2.1, c4.2.2.2.2.1⟩ : S_carve_needs))).bind fun x15 => if (cond (!c4.1) true (decide (x15 < 0))) then (F65L1 fuel rec25 at_ deep before b0x0 b3x0 b3x1 b7x0 x1 x2 n5 (true, (w64 (c4.2.1 + 1)), x10.2, x10.1.e0, x10.1.e1, (w64 (x7.Lo + c4.2.1)))) else (F65L1 fuel rec25 at_ deep before b0x0 b3x0 b3x1 b7x0 x1 x2 n5 (c4.1, (w64 (c4.2.1 + 1)), x10.2, c4.2.2.2.1, c4.2.2.2.2.1, c4.2.2.2.2.2))))) else (some (.inr (c4.2.2.1, c4.2.2.2.1, c4.2.2.2.2.1, c4.2.2.2.2.2)))

def B65 (fuel : Nat) (rec25 : Int → Int → S_api_Span → (List S_api_Span) → Int → (List S_api_CvPoint) → (List (S_carve_state × S_carve_rest)) → Bool → Option (S_carve_rest × (List (S_carve_state × S_carve_rest)))) (at_ : Int) (deep : Int) (before : S_api_Span) (b0x0 : List S_api_Span) (b3x0 : Int) (b3x1 : List S_api_CvPoint) (m5 : List (S_carve_state × S_carve_rest)) (b7x0 : Bool) : Option (S_carve_rest × (List (S_carve_state × S_carve_rest))) :=
  (idx b0x0 at_).bind fun x1 => (idx b0x0 at_).bind fun x2 => (F65L1 fuel rec25 at_ deep before b0x0 b3x0 b3x1 b7x0 x1 x2 fuel (false, 0, m5, 0, 0, 0)).bind fun o3 => outK o3 (fun (ro3 : S_carve_rest × (List (S_carve_state × S_carve_rest))) => some ro3) (fun (so3 : (List (S_carve_state × S_carve_rest)) × Int × Int × Int) => some ((⟨(⟨so3.2.1, so3.2.2.1⟩ : S_carve_needs), so3.2.2.2⟩ : S_carve_rest), so3.1))

def F65 : Nat → Int → Int → S_api_Span → (List S_api_Span) → Int → (List S_api_CvPoint) → (List (S_carve_state × S_carve_rest)) → Bool → Option (S_carve_rest × (List (S_carve_state × S_carve_rest)))
  | 0, _, _, _, _, _, _, _, _ => none
  | n + 1, at_, deep, before, b0x0, b3x0, b3x1, m5, b7x0 => B65 (n + 1) (F65 n) at_ deep before b0x0 b3x0 b3x1 m5 b7x0

set_option maxRecDepth 100000 in
theorem ct65B {fuel : Nat} {rec25 : Int → Int → S_api_Span → (List S_api_Span) → Int → (List S_api_CvPoint) → (List (S_carve_state × S_carve_rest)) → Bool → Option (S_carve_rest × (List (S_carve_state × S_carve_rest)))} (hrec25 : ∀ (at_ : Int) (deep : Int) (before : S_api_Span) (b0x0 : List S_api_Span) (b3x0 : Int) (b3x1 : List S_api_CvPoint) (m5 : List (S_carve_state × S_carve_rest)) (b7x0 : Bool) (res : S_carve_rest × (List (S_carve_state × S_carve_rest))), rec25 at_ deep before b0x0 b3x0 b3x1 m5 b7x0 = some res → HCall Try.prog 65 [vi at_, vi deep, .d (.agg [(di before.Lo), (di before.Hi)]), .ref 0 0, .ref 1 0, .ref 7 0] [.cells [.d (L56 b0x0)], .cells [.fn (.func 64) [] [.ref 2 0, .ref 3 0]], .cells [.fn (.func 68) [] [.ref 3 0, .ref 4 0, .ref 6 0]], .cells [vi b3x0, .d (L58 b3x1)], .cells [.mp 5], .map (mpo95x99 m5), .cells [.fn (.func 65) [] [.ref 0 0, .ref 1 0, .ref 7 0]], .cells [vb b7x0]] (.d (.agg [(di res.1.needs.e0), (di res.1.needs.e1), (di res.1.next)])) [.cells [.d (L56 b0x0)], .cells [.fn (.func 64) [] [.ref 2 0, .ref 3 0]], .cells [.fn (.func 68) [] [.ref 3 0, .ref 4 0, .ref 6 0]], .cells [vi b3x0, .d (L58 b3x1)], .cells [.mp 5], .map (mpo95x99 res.2), .cells [.fn (.func 65) [] [.ref 0 0, .ref 1 0, .ref 7 0]], .cells [vb b7x0]]) {at_ : Int} {deep : Int} {before : S_api_Span} {b0x0 : List S_api_Span} {b3x0 : Int} {b3x1 : List S_api_CvPoint} {m5 : List (S_carve_state × S_carve_rest)} {b7x0 : Bool} {res : S_carve_rest × (List (S_carve_state × S_carve_rest))} (h : B65 fuel rec25 at_ deep before b0x0 b3x0 b3x1 m5 b7x0 = some res) : HCall Try.prog 65 [vi at_, vi deep, .d (.agg [(di before.Lo), (di before.Hi)]), .ref 0 0, .ref 1 0, .ref 7 0] [.cells [.d (L56 b0x0)], .cells [.fn (.func 64) [] [.ref 2 0, .ref 3 0]], .cells [.fn (.func 68) [] [.ref 3 0, .ref 4 0, .ref 6 0]], .cells [vi b3x0, .d (L58 b3x1)], .cells [.mp 5], .map (mpo95x99 m5), .cells [.fn (.func 65) [] [.ref 0 0, .ref 1 0, .ref 7 0]], .cells [vb b7x0]] (.d (.agg [(di res.1.needs.e0), (di res.1.needs.e1), (di res.1.next)])) [.cells [.d (L56 b0x0)], .cells [.fn (.func 64) [] [.ref 2 0, .ref 3 0]], .cells [.fn (.func 68) [] [.ref 3 0, .ref 4 0, .ref 6 0]], .cells [vi b3x0, .d (L58 b3x1)], .cells [.mp 5], .map (mpo95x99 res.2), .cells [.fn (.func 65) [] [.ref 0 0, .ref 1 0, .ref 7 0]], .cells [vb b7x0]] := by
  refine HCall.of_awpS tt_ok (N := 70) (fl := 8) Try.func65 rfl (by kernel_rfl) rfl rfl (Nat.le_of_ble_eq_true rfl) ?_
  unfold B65 at h
  refine awp_sreg tt_ok (ks := [0, 1, 3, 4, 5, 8, 9]) (hs := []) [(0, vi at_), (1, vi deep), (3, .ref 0 0), (4, .ref 1 0), (5, .ref 7 0), (8, .ref 8 0), (9, .ref 9 0)] [.cells [.d (L56 b0x0)], .cells [.fn (.func 64) [] [.ref 2 0, .ref 3 0]], .cells [.fn (.func 68) [] [.ref 3 0, .ref 4 0, .ref 6 0]], .cells [vi b3x0, .d (L58 b3x1)], .cells [.mp 5], .map (mpo95x99 m5), .cells [.fn (.func 65) [] [.ref 0 0, .ref 1 0, .ref 7 0]], .cells [vb b7x0], .cells [vi before.Lo, vi before.Hi], .cells [vi 0, vi 0, vi 0]] [] (by kernel_rfl) trivial ?_
  refine awp_scope ?_
  refine awp_sreg tt_ok (ks := [0, 1, 3, 4, 5, 8, 9, 10]) (hs := []) [(0, vi at_), (1, vi deep), (3, .ref 0 0), (4, .ref 1 0), (5, .ref 7 0), (8, .ref 8 0), (9, .ref 9 0), (10, vb false)] [.cells [.d (L56 b0x0)], .cells [.fn (.func 64) [] [.ref 2 0, .ref 3 0]], .cells [.fn (.func 68) [] [.ref 3 0, .ref 4 0, .ref 6 0]], .cells [vi b3x0, .d (L58 b3x1)], .cells [.mp 5], .map (mpo95x99 m5), .cells [.fn (.func 65) [] [.ref 0 0, .ref 1 0, .ref 7 0]], .cells [vb b7x0], .cells [vi before.Lo, vi before.Hi], .cells [vi 0, vi 0, vi 0]] [] (by kernel_rfl) trivial ?_
  refine awp_sreg tt_ok (ks := [0, 1, 3, 4, 5, 8, 9, 10, 11]) (hs := []) [(0, vi at_), (1, vi deep), (3, .ref 0 0), (4, .ref 1 0), (5, .ref 7 0), (8, .ref 8 0), (9, .ref 9 0), (10, vb false), (11, .ref 10 0)] [.cells [.d (L56 b0x0)], .cells [.fn (.func 64) [] [.ref 2 0, .ref 3 0]], .cells [.fn (.func 68) [] [.ref 3 0, .ref 4 0, .ref 6 0]], .cells [vi b3x0, .d (L58 b3x1)], .cells [.mp 5], .map (mpo95x99 m5), .cells [.fn (.func 65) [] [.ref 0 0, .ref 1 0, .ref 7 0]], .cells [vb b7x0], .cells [vi before.Lo, vi before.Hi], .cells [vi 0, vi 0, vi 0], .cells [vi 0, vi 0, vi 0]] [] (by kernel_rfl) trivial ?_
  refine awp_seq ?_
  refine awp_label ?_
  show awp _ _ _ _ _ _ _ _
  refine awp_seq ?_
  obtain ⟨x1, hx1, h⟩ := Option.bind_eq_some_iff.1 h
  obtain ⟨x2, hx2, h⟩ := Option.bind_eq_some_iff.1 h
  refine awp_sdraw tt_ok mixed (ks := [0, 1, 3, 4, 5, 8, 9, 10, 11, 27, 28]) (hs := [.no, .no, .cells (cel56 x1), .no, .no, .no, .no, .cells (cel56 x2)]) 13 [0, 1, 3, 4, 5, 8, 9, 10, 11, 27, 28] [(0, vi at_), (1, vi deep), (3, .ref 0 0), (4, .ref 1 0), (5, .ref 7 0), (8, .ref 8 0), (9, .ref 9 0), (10, vb false), (11, .ref 10 0), (27, vi (w64 ((w64 (x1.Hi - x2.Lo)) + 1))), (28, vi 0)] [.cells [.d (L56 b0x0)], .cells [.fn (.func 64) [] [.ref 2 0, .ref 3 0]], .cells [.fn (.func 68) [] [.ref 3 0, .ref 4 0, .ref 6 0]], .cells [vi b3x0, .d (L58 b3x1)], .cells [.mp 5], .map (mpo95x99 m5), .cells [.fn (.func 65) [] [.ref 0 0, .ref 1 0, .ref 7 0]], .cells [vb b7x0], .cells [vi before.Lo, vi before.Hi], .cells [vi 0, vi 0, vi 0], .cells [vi 0, vi 0, vi 0]] [IX56 b0x0 at_ x1, IX56 b0x0 at_ x2] (by kernel_rfl) (And.intro (idxOk cel56_len hx1) (idxOk cel56_len hx2)) ?_
  obtain ⟨o3, ho3, h⟩ := Option.bind_eq_some_iff.1 h
  refine awp_cut1 (OutQ (fun (ro3 : S_carve_rest × (List (S_carve_state × S_carve_rest))) => [(9, .ref 8 0)]) (fun (ro3 : S_carve_rest × (List (S_carve_state × S_carve_rest))) => [.cells [.d (L56 b0x0)], .cells [.fn (.func 64) [] [.ref 2 0, .ref 3 0]], .cells [.fn (.func 68) [] [.ref 3 0, .ref 4 0, .ref 6 0]], .cells [vi b3x0, .d (L58 b3x1)], .cells [.mp 5], .map (mpo95x99 ro3.2), .cells [.fn (.func 65) [] [.ref 0 0, .ref 1 0, .ref 7 0]], .cells [vb b7x0], .cells [vi ro3.1.needs.e0, vi ro3.1.needs.e1, vi ro3.1.next]]) (fun (so3 : (List (S_carve_state × S_carve_rest)) × Int × Int × Int) => [(9, .ref 9 0), (11, .ref 10 0)]) (fun (so3 : (List (S_carve_state × S_carve_rest)) × Int × Int × Int) => [.cells [.d (L56 b0x0)], .cells [.fn (.func 64) [] [.ref 2 0, .ref 3 0]], .cells [.fn (.func 68) [] [.ref 3 0, .ref 4 0, .ref 6 0]], .cells [vi b3x0, .d (L58 b3x1)], .cells [.mp 5], .map (mpo95x99 so3.1), .cells [.fn (.func 65) [] [.ref 0 0, .ref 1 0, .ref 7 0]], .cells [vb b7x0], .cells [vi before.Lo, vi before.Hi], .cells [vi 0, vi 0, vi 0], .cells [vi so3.2.1, vi so3.2.2.1, vi so3.2.2.2]]) o3) ?_ ?_
  · clear h
    have h := ho3
    clear ho3
    refine awp_selQ ?_
    refine awp_wk 11 [0, 1, 3, 4, 5, 8, 9, 10, 11, 27, 28] (by kernel_rfl) [(0, vi at_), (1, vi deep), (3, .ref 0 0), (4, .ref 1 0), (5, .ref 7 0), (8, .ref 8 0), (9, .ref 9 0), (10, vb false), (11, .ref 10 0), (27, vi (w64 ((w64 (x1.Hi - x2.Lo)) + 1))), (28, vi 0)] [.cells [.d (L56 b0x0)], .cells [.fn (.func 64) [] [.ref 2 0, .ref 3 0]], .cells [.fn (.func 68) [] [.ref 3 0, .ref 4 0, .ref 6 0]], .cells [vi b3x0, .d (L58 b3x1)], .cells [.mp 5], .map (mpo95x99 m5), .cells [.fn (.func 65) [] [.ref 0 0, .ref 1 0, .ref 7 0]], .cells [vb b7x0], .cells [vi before.Lo, vi before.Hi], .cells [vi 0, vi 0, vi 0], .cells [vi 0, vi 0, vi 0]] (by kernel_rfl) (by kernel_rfl) ?_
    refine awp_block ?_
    refine awp_loop (n := fuel) ?_
    refine awpN_ind (fun n (c4 : Bool × Int × (List (S_carve_state × S_carve_rest)) × Int × Int × Int) => F65L1 fuel rec25 at_ deep before b0x0 b3x0 b3x1 b7x0 x1 x2 n c4) o3 (fun (c4 : Bool × Int × (List (S_carve_state × S_carve_rest)) × Int × Int × Int) => [(0, vi at_), (1, vi deep), (3, .ref 0 0), (4, .ref 1 0), (5, .ref 7 0), (8, .ref 8 0), (9, .ref 9 0), (10, vb c4.1), (11, .ref 10 0), (27, vi (w64 ((w64 (x1.Hi - x2.Lo)) + 1))), (28, vi c4.2.1)]) (fun (c4 : Bool × Int × (List (S_carve_state × S_carve_rest)) × Int × Int × Int) => [.cells [.d (L56 b0x0)], .cells [.fn (.func 64) [] [.ref 2 0, .ref 3 0]], .cells [.fn (.func 68) [] [.ref 3 0, .ref 4 0, .ref 6 0]], .cells [vi b3x0, .d (L58 b3x1)], .cells [.mp 5], .map (mpo95x99 c4.2.2.1), .cells [.fn (.func 65) [] [.ref 0 0, .ref 1 0, .ref 7 0]], .cells [vb b7x0], .cells [vi before.Lo, vi before.Hi], .cells [vi 0, vi 0, vi 0], .cells [vi c4.2.2.2.1, vi c4.2.2.2.2.1, vi c4.2.2.2.2.2]]) (fun _ => rfl) ?_ fuel (false, 0, m5, 0, 0, 0) h
    clear h
    intro n5 c4 h hrn5
    change F65L1 fuel rec25 at_ deep before b0x0 b3x0 b3x1 b7x0 x1 x2 (n5 + 1) c4 = some o3 at h
    rw [F65L1] at h
    refine awp_sreg tt_ok (ks := [0, 1, 3, 4, 5, 8, 9, 10, 11, 27, 28, 29]) (hs := []) [(0, vi at_), (1, vi deep), (3, .ref 0 0), (4, .ref 1 0), (5, .ref 7 0), (8, .ref 8 0), (9, .ref 9 0), (10, vb c4.1), (11, .ref 10 0), (27, vi (w64 ((w64 (x1.Hi - x2.Lo)) + 1))), (28, vi c4.2.1), (29, vb (decide (c4.2.1 < (w64 ((w64 (x1.Hi - x2.Lo)) + 1)))))] [.cells [.d (L56 b0x0)], .cells [.fn (.func 64) [] [.ref 2 0, .ref 3 0]], .cells [.fn (.func 68) [] [.ref 3 0, .ref 4 0, .ref 6 0]], .cells [vi b3x0, .d (L58 b3x1)], .cells [.mp 5], .map (mpo95x99 c4.2.2.1), .cells [.fn (.func 65) [] [.ref 0 0, .ref 1 0, .ref 7 0]], .cells [vb b7x0], .cells [vi before.Lo, vi before.Hi], .cells [vi 0, vi 0, vi 0], .cells [vi c4.2.2.2.1, vi c4.2.2.2.2.1, vi c4.2.2.2.2.2]] [] (by kernel_rfl) trivial ?_
    refine awp_seq ?_
    refine awp_cond (b := (decide (c4.2.1 < (w64 ((w64 (x1.Hi - x2.Lo)) + 1))))) (by kernel_rfl) (fun hb6 => ?_) (fun hb6 => ?_)
    · rw [if_pos hb6] at h
      refine awp_skip ?_
      show awp _ _ _ _ _ _ _ _
      refine awp_seq ?_
      refine awp_block ?_
      refine awp_sreg tt_ok (ks := [0, 1, 3, 4, 5, 8, 9, 10, 11, 12, 27, 28]) (hs := []) [(0, vi at_), (1, vi deep), (3, .ref 0 0), (4, .ref 1 0), (5, .ref 7 0), (8, .ref 8 0), (9, .ref 9 0), (10, vb c4.1), (11, .ref 10 0), (12, vi c4.2.1), (27, vi (w64 ((w64 (x1.Hi - x2.Lo)) + 1))), (28, vi c4.2.1)] [.cells [.d (L56 b0x0)], .cells [.fn (.func 64) [] [.ref 2 0, .ref 3 0]], .cells [.fn (.func 68) [] [.ref 3 0, .ref 4 0, .ref 6 0]], .cells [vi b3x0, .d (L58 b3x1)], .cells [.mp 5], .map (mpo95x99 c4.2.2.1), .cells [.fn (.func 65) [] [.ref 0 0, .ref 1 0, .ref 7 0]], .cells [vb b7x0], .cells [vi before.Lo, vi before.Hi], .cells [vi 0, vi 0, vi 0], .cells [vi c4.2.2.2.1, vi c4.2.2.2.2.1, vi c4.2.2.2.2.2]] [] (by kernel_rfl) trivial ?_
      obtain ⟨x7, hx7, h⟩ := Option.bind_eq_some_iff.1 h
      refine awp_sreg tt_ok (ks := [0, 1, 3, 4, 5, 8, 9, 10, 11, 13, 27, 28]) (hs := [.no, .no, .cells (cel56 x7)]) [(0, vi at_), (1, vi deep), (3, .ref 0 0), (4, .ref 1 0), (5, .ref 7 0), (8, .ref 8 0), (9, .ref 9 0), (10, vb c4.1), (11, .ref 10 0), (13, vi (w64 (x7.Lo + c4.2.1))), (27, vi (w64 ((w64 (x1.Hi - x2.Lo)) + 1))), (28, vi c4.2.1)] [.cells [.d (L56 b0x0)], .cells [.fn (.func 64) [] [.ref 2 0, .ref 3 0]], .cells [.fn (.func 68) [] [.ref 3 0, .ref 4 0, .ref 6 0]], .cells [vi b3x0, .d (L58 b3x1)], .cells [.mp 5], .map (mpo95x99 c4.2.2.1), .cells [.fn (.func 65) [] [.ref 0 0, .ref 1 0, .ref 7 0]], .cells [vb b7x0], .cells [vi before.Lo, vi before.Hi], .cells [vi 0, vi 0, vi 0], .cells [vi c4.2.2.2.1, vi c4.2.2.2.2.1, vi c4.2.2.2.2.2]] [IX56 b0x0 at_ x7] (by kernel_rfl) (idxOk cel56_len hx7) ?_
      refine awp_seq ?_
      obtain ⟨x8, hx8, h⟩ := Option.bind_eq_some_iff.1 h
      refine awp_sreg tt_ok (ks := [0, 1, 3, 4, 5, 8, 9, 10, 11, 13, 27, 28, 44]) (hs := [.no, .no, .no, .no, .no, .no, .call [(di before.Lo), (di before.Hi), (L3 ([(w64 (x7.Lo + c4.2.1))] : List Int))] (vb x8)]) [(0, vi at_), (1, vi deep), (3, .ref 0 0), (4, .ref 1 0), (5, .ref 7 0), (8, .ref 8 0), (9, .ref 9 0), (10, vb c4.1), (11, .ref 10 0), (13, vi (w64 (x7.Lo + c4.2.1))), (27, vi (w64 ((w64 (x1.Hi - x2.Lo)) + 1))), (28, vi c4.2.1), (44, vb x8)] [.cells [.d (L56 b0x0)], .cells [.fn (.func 64) [] [.ref 2 0, .ref 3 0]], .cells [.fn (.func 68) [] [.ref 3 0, .ref 4 0, .ref 6 0]], .cells [vi b3x0, .d (L58 b3x1)], .cells [.mp 5], .map (mpo95x99 c4.2.2.1), .cells [.fn (.func 65) [] [.ref 0 0, .ref 1 0, .ref 7 0]], .cells [vb b7x0], .cells [vi before.Lo, vi before.Hi], .cells [vi 0, vi 0, vi 0], .cells [vi c4.2.2.2.1, vi c4.2.2.2.2.1, vi c4.2.2.2.2.2]] [PCall Try.prog 49 [(di before.Lo), (di before.Hi), (L3 ([(w64 (x7.Lo + c4.2.1))] : List Int))] (vb x8)] (by kernel_rfl) (ct49 hx8) ?_
      refine awp_cond (b := x8) (by kernel_rfl) (fun hb9 => ?_) (fun hb9 => ?_)
      · rw [if_pos hb9] at h
        refine awp_exit ?_
        show awp _ _ _ _ _ _ _ _
        refine awp_region (T' := [(0, vi at_), (1, vi deep), (3, .ref 0 0), (4, .ref 1 0), (5, .ref 7 0), (8, .ref 8 0), (9, .ref 9 0), (10, vb c4.1), (11, .ref 10 0), (27, vi (w64 ((w64 (x1.Hi - x2.Lo)) + 1))), (28, vi (w64 (c4.2.1 + 1)))]) (H' := [.cells [.d (L56 b0x0)], .cells [.fn (.func 64) [] [.ref 2 0, .ref 3 0]], .cells [.fn (.func 68) [] [.ref 3 0, .ref 4 0, .ref 6 0]], .cells [vi b3x0, .d (L58 b3x1)], .cells [.mp 5], .map (mpo95x99 c4.2.2.1), .cells [.fn (.func 65) [] [.ref 0 0, .ref 1 0, .ref 7 0]], .cells [vb b7x0], .cells [vi before.Lo, vi before.Hi], .cells [vi 0, vi 0, vi 0], .cells [vi c4.2.2.2.1, vi c4.2.2.2.2.1, vi c4.2.2.2.2.2]]) (ps := []) tt_ok (ks := [0, 1, 3, 4, 5, 8, 9, 10, 11, 27, 28]) (hs := []) (by kernel_rfl) trivial ?_
        exact awpN_wk 11 [0, 1, 3, 4, 5, 8, 9, 10, 11, 27, 28] (by kernel_rfl) _ _ (by kernel_rfl) (by kernel_rfl) (hrn5 (c4.1, (w64 (c4.2.1 + 1)), c4.2.2.1, c4.2.2.2.1, c4.2.2.2.2.1, c4.2.2.2.2.2) h)
      · rw [if_neg (ntrue hb9)] at h
        refine awp_skip ?_
        show awp _ _ _ _ _ _ _ _
        obtain ⟨x10, hx10, h⟩ := Option.bind_eq_some_iff.1 h
        refine awp_sreg tt_ok (ks := [0, 1, 3, 4, 5, 8, 9, 10, 11, 13, 14, 27, 28]) (hs := [.no, .no, .no, .no, .no, .hcall [(2, false), (3, false), (4, false), (5, false), (6, false), (0, false), (1, false), (7, false)] (.d (.agg [(di x10.1.e0), (di x10.1.e1)])) [.cells [.fn (.func 68) [] [.ref 1 0, .ref 2 0, .ref 4 0]], .cells [vi b3x0, .d (L58 b3x1)], .cells [.mp 3], .map (mpo95x99 x10.2), .cells [.fn (.func 65) [] [.ref 5 0, .ref 6 0, .ref 7 0]], .cells [.d (L56 b0x0)], .cells [.fn (.func 64) [] [.ref 0 0, .ref 1 0]], .cells [vb b7x0]]]) [(0, vi at_), (1, vi deep), (3, .ref 0 0), (4, .ref 1 0), (5, .ref 7 0), (8, .ref 8 0), (9, .ref 9 0), (10, vb c4.1), (11, .ref 10 0), (13, vi (w64 (x7.Lo + c4.2.1))), (14, .ref 11 0), (27, vi (w64 ((w64 (x1.Hi - x2.Lo)) + 1))), (28, vi c4.2.1)] [.cells [.d (L56 b0x0)], .cells [.fn (.func 64) [] [.ref 2 0, .ref 3 0]], .cells [.fn (.func 68) [] [.ref 3 0, .ref 4 0, .ref 6 0]], .cells [vi b3x0, .d (L58 b3x1)], .cells [.mp 5], .map (mpo95x99 x10.2), .cells [.fn (.func 65) [] [.ref 0 0, .ref 1 0, .ref 7 0]], .cells [vb b7x0], .cells [vi before.Lo, vi before.Hi], .cells [vi 0, vi 0, vi 0], .cells [vi c4.2.2.2.1, vi c4.2.2.2.2.1, vi c4.2.2.2.2.2], .cells [vi x10.1.e0, vi x10.1.e1]] [HCall Try.prog 64 [.d (.agg [(di at_), (di (w64 (x7.Lo + c4.2.1)))]), vi deep, .ref 0 0, .ref 1 0] [.cells [.fn (.func 68) [] [.ref 1 0, .ref 2 0, .ref 4 0]], .cells [vi b3x0, .d (L58 b3x1)], .cells [.mp 3], .map (mpo95x99 c4.2.2.1), .cells [.fn (.func 65) [] [.ref 5 0, .ref 6 0, .ref 7 0]], .cells [.d (L56 b0x0)], .cells [.fn (.func 64) [] [.ref 0 0, .ref 1 0]], .cells [vb b7x0]] (.d (.agg [(di x10.1.e0), (di x10.1.e1)])) [.cells [.fn (.func 68) [] [.ref 1 0, .ref 2 0, .ref 4 0]], .cells [vi b3x0, .d (L58 b3x1)], .cells [.mp 3], .map (mpo95x99 x10.2), .cells [.fn (.func 65) [] [.ref 5 0, .ref 6 0, .ref 7 0]], .cells [.d (L56 b0x0)], .cells [.fn (.func 64) [] [.ref 0 0, .ref 1 0]], .cells [vb b7x0]]] (by kernel_rfl) (ct64 hrec25 hx10) ?_
        refine awp_sreg tt_ok (ks := [0, 1, 3, 4, 5, 8, 9, 10, 11, 13, 14, 15, 27, 28]) (hs := []) [(0, vi at_), (1, vi deep), (3, .ref 0 0), (4, .ref 1 0), (5, .ref 7 0), (8, .ref 8 0), (9, .ref 9 0), (10, vb c4.1), (11, .ref 10 0), (13, vi (w64 (x7.Lo + c4.2.1))), (14, .ref 11 0), (15, .fn (.func 66) [.d (.agg [(di x10.1.e0), (di x10.1.e1)])] []), (27, vi (w64 ((w64 (x1.Hi - x2.Lo)) + 1))), (28, vi c4.2.1)] [.cells [.d (L56 b0x0)], .cells [.fn (.func 64) [] [.ref 2 0, .ref 3 0]], .cells [.fn (.func 68) [] [.ref 3 0, .ref 4 0, .ref 6 0]], .cells [vi b3x0, .d (L58 b3x1)], .cells [.mp 5], .map (mpo95x99 x10.2), .cells [.fn (.func 65) [] [.ref 0 0, .ref 1 0, .ref 7 0]], .cells [vb b7x0], .cells [vi before.Lo, vi before.Hi], .cells [vi 0, vi 0, vi 0], .cells [vi c4.2.2.2.1, vi c4.2.2.2.2.1, vi c4.2.2.2.2.2], .cells [vi x10.1.e0, vi x10.1.e1]] [] (by kernel_rfl) trivial ?_
        refine awp_seq ?_
        refine awp_sreg tt_ok (ks := [0, 1, 3, 4, 5, 8, 9, 10, 11, 13, 14, 15, 27, 28, 53]) (hs := []) [(0, vi at_), (1, vi deep), (3, .ref 0 0), (4, .ref 1 0), (5, .ref 7 0), (8, .ref 8 0), (9, .ref 9 0), (10, vb c4.1), (11, .ref 10 0), (13, vi (w64 (x7.Lo + c4.2.1))), (14, .ref 11 0), (15, .fn (.func 66) [.d (.agg [(di x10.1.e0), (di x10.1.e1)])] []), (27, vi (w64 ((w64 (x1.Hi - x2.Lo)) + 1))), (28, vi c4.2.1), (53, vb b7x0)] [.cells [.d (L56 b0x0)], .cells [.fn (.func 64) [] [.ref 2 0, .ref 3 0]], .cells [.fn (.func 68) [] [.ref 3 0, .ref 4 0, .ref 6 0]], .cells [vi b3x0, .d (L58 b3x1)], .cells [.mp 5], .map (mpo95x99 x10.2), .cells [.fn (.func 65) [] [.ref 0 0, .ref 1 0, .ref 7 0]], .cells [vb b7x0], .cells [vi before.Lo, vi before.Hi], .cells [vi 0, vi 0, vi 0], .cells [vi c4.2.2.2.1, vi c4.2.2.2.2.1, vi c4.2.2.2.2.2], .cells [vi x10.1.e0, vi x10.1.e1]] [] (by kernel_rfl) trivial ?_
        refine awp_cond (b := b7x0) (by kernel_rfl) (fun hb12 => ?_) (fun hb12 => ?_)
        · rw [if_pos hb12] at h
          refine awp_region (T' := [(0, vi at_), (1, vi deep), (3, .ref 0 0), (4, .ref 1 0), (5, .ref 7 0), (8, .ref 8 0), (9, .ref 9 0), (10, vb c4.1), (11, .ref 10 0), (13, vi (w64 (x7.Lo + c4.2.1))), (14, .ref 11 0), (15, .fn (.func 67) [.d (.agg [(di x10.1.e0), (di x10.1.e1)])] []), (27, vi (w64 ((w64 (x1.Hi - x2.Lo)) + 1))), (28, vi c4.2.1)]) (H' := [.cells [.d (L56 b0x0)], .cells [.fn (.func 64) [] [.ref 2 0, .ref 3 0]], .cells [.fn (.func 68) [] [.ref 3 0, .ref 4 0, .ref 6 0]], .cells [vi b3x0, .d (L58 b3x1)], .cells [.mp 5], .map (mpo95x99 x10.2), .cells [.fn (.func 65) [] [.ref 0 0, .ref 1 0, .ref 7 0]], .cells [vb b7x0], .cells [vi before.Lo, vi before.Hi], .cells [vi 0, vi 0, vi 0], .cells [vi c4.2.2.2.1, vi c4.2.2.2.2.1, vi c4.2.2.2.2.2], .cells [vi x10.1.e0, vi x10.1.e1]]) (ps := []) tt_ok (ks := [0, 1, 3, 4, 5, 8, 9, 10, 11, 13, 14, 15, 27, 28]) (hs := []) (by kernel_rfl) trivial ?_
          show awp _ _ _ _ _ _ _ _
          obtain ⟨x13, hx13, h⟩ := Option.bind_eq_some_iff.1 h
          refine awp_sreg tt_ok (ks := [0, 1, 3, 4, 5, 8, 9, 10, 11, 13, 14, 27, 28, 64]) (hs := [.no, .no, .no, .no, .no, .no, .call [(.agg [(di x10.1.e0), (di x10.1.e1)]), (.agg [(di c4.2.2.2.1), (di c4.2.2.2.2.1)])] (vi x13)]) [(0, vi at_), (1, vi deep), (3, .ref 0 0), (4, .ref 1 0), (5, .ref 7 0), (8, .ref 8 0), (9, .ref 9 0), (10, vb c4.1), (11, .ref 10 0), (13, vi (w64 (x7.Lo + c4.2.1))), (14, .ref 11 0), (27, vi (w64 ((w64 (x1.Hi - x2.Lo)) + 1))), (28, vi c4.2.1), (64, vb (cond (!c4.1) true (decide (x13 < 0))))] [.cells [.d (L56 b0x0)], .cells [.fn (.func 64) [] [.ref 2 0, .ref 3 0]], .cells [.fn (.func 68) [] [.ref 3 0, .ref 4 0, .ref 6 0]], .cells [vi b3x0, .d (L58 b3x1)], .cells [.mp 5], .map (mpo95x99 x10.2), .cells [.fn (.func 65) [] [.ref 0 0, .ref 1 0, .ref 7 0]], .cells [vb b7x0], .cells [vi before.Lo, vi before.Hi], .cells [vi 0, vi 0, vi 0], .cells [vi c4.2.2.2.1, vi c4.2.2.2.2.1, vi c4.2.2.2.2.2], .cells [vi x10.1.e0, vi x10.1.e1]] [((!(!c4.1)) = true → (!(!c4.1)) = true), ((!(!c4.1)) = true → (!(!c4.1)) = true), ((!(!c4.1)) = true → (!(!c4.1)) = true), ((!(!c4.1)) = true → PCall Try.prog 67 [(.agg [(di x10.1.e0), (di x10.1.e1)]), (.agg [(di c4.2.2.2.1), (di c4.2.2.2.2.1)])] (vi x13)), ((!(!c4.1)) = true → (!(!c4.1)) = true), ((!c4.1) = false → (!(!c4.1)) = true)] (by kernel_rfl) (And.intro (id) (And.intro (id) (And.intro (id) (And.intro ((fun hg => ct67 (optG_of hx13 hg))) (And.intro (id) (not_of)))))) ?_
          refine awp_cond (b := (cond (!c4.1) true (decide (x13 < 0)))) (by kernel_rfl) (fun hb14 => ?_) (fun hb14 => ?_)
          · rw [if_pos hb14] at h
            refine awp_region (T' := [(0, vi at_), (1, vi deep), (3, .ref 0 0), (4, .ref 1 0), (5, .ref 7 0), (8, .ref 8 0), (9, .ref 9 0), (10, vb true), (11, .ref 10 0), (27, vi (w64 ((w64 (x1.Hi - x2.Lo)) + 1))), (28, vi c4.2.1)]) (H' := [.cells [.d (L56 b0x0)], .cells [.fn (.func 64) [] [.ref 2 0, .ref 3 0]], .cells [.fn (.func 68) [] [.ref 3 0, .ref 4 0, .ref 6 0]], .cells [vi b3x0, .d (L58 b3x1)], .cells [.mp 5], .map (mpo95x99 x10.2), .cells [.fn (.func 65) [] [.ref 0 0, .ref 1 0, .ref 7 0]], .cells [vb b7x0], .cells [vi before.Lo, vi before.Hi], .cells [vi 0, vi 0, vi 0], .cells [vi x10.1.e0, vi x10.1.e1, vi (w64 (x7.Lo + c4.2.1))], .cells [vi x10.1.e0, vi x10.1.e1]]) (ps := []) tt_ok (ks := [0, 1, 3, 4, 5, 8, 9, 10, 11, 27, 28]) (hs := []) (by kernel_rfl) trivial ?_
            show awp _ _ _ _ _ _ _ _
            refine awp_region (T' := [(0, vi at_), (1, vi deep), (3, .ref 0 0), (4, .ref 1 0), (5, .ref 7 0), (8, .ref 8 0), (9, .ref 9 0), (10, vb true), (11, .ref 10 0), (27, vi (w64 ((w64 (x1.Hi - x2.Lo)) + 1))), (28, vi (w64 (c4.2.1 + 1)))]) (H' := [.cells [.d (L56 b0x0)], .cells [.fn (.func 64) [] [.ref 2 0, .ref 3 0]], .cells [.fn (.func 68) [] [.ref 3 0, .ref 4 0, .ref 6 0]], .cells [vi b3x0, .d (L58 b3x1)], .cells [.mp 5], .map (mpo95x99 x10.2), .cells [.fn (.func 65) [] [.ref 0 0, .ref 1 0, .ref 7 0]], .cells [vb b7x0], .cells [vi before.Lo, vi before.Hi], .cells [vi 0, vi 0, vi 0], .cells [vi x10.1.e0, vi x10.1.e1, vi (w64 (x7.Lo + c4.2.1))], .cells [vi x10.1.e0, vi x10.1.e1]]) (ps := []) tt_ok (ks := [0, 1, 3, 4, 5, 8, 9, 10, 11, 27, 28]) (hs := []) (by kernel_rfl) trivial ?_
            exact awpN_wk 11 [0, 1, 3, 4, 5, 8, 9, 10, 11, 27, 28] (by kernel_rfl) _ _ (by kernel_rfl) (by kernel_rfl) (hrn5 (true, (w64 (c4.2.1 + 1)), x10.2, x10.1.e0, x10.1.e1, (w64 (x7.Lo + c4.2.1))) h)
          · rw [if_neg (ntrue hb14)] at h
            refine awp_skip ?_
            show awp _ _ _ _ _ _ _ _
            refine awp_region (T' := [(0, vi at_), (1, vi deep), (3, .ref 0 0), (4, .ref 1 0), (5, .ref 7 0), (8, .ref 8 0), (9, .ref 9 0), (10, vb c4.1), (11, .ref 10 0), (27, vi (w64 ((w64 (x1.Hi - x2.Lo)) + 1))), (28, vi (w64 (c4.2.1 + 1)))]) (H' := [.cells [.d (L56 b0x0)], .cells [.fn (.func 64) [] [.ref 2 0, .ref 3 0]], .cells [.fn (.func 68) [] [.ref 3 0, .ref 4 0, .ref 6 0]], .cells [vi b3x0, .d (L58 b3x1)], .cells [.mp 5], .map (mpo95x99 x10.2), .cells [.fn (.func 65) [] [.ref 0 0, .ref 1 0, .ref 7 0]], .cells [vb b7x0], .cells [vi before.Lo, vi before.Hi], .cells [vi 0, vi 0, vi 0], .cells [vi c4.2.2.2.1, vi c4.2.2.2.2.1, vi c4.2.2.2.2.2], .cells [vi x10.1.e0, vi x10.1.e1]]) (ps := []) tt_ok (ks := [0, 1, 3, 4, 5, 8, 9, 10, 11, 27, 28]) (hs := []) (by kernel_rfl) trivial ?_
            exact awpN_wk 11 [0, 1, 3, 4, 5, 8, 9, 10, 11, 27, 28] (by kernel_rfl) _ _ (by kernel_rfl) (by kernel_rfl) (hrn5 (c4.1, (w64 (c4.2.1 + 1)), x10.2, c4.2.2.2.1, c4.2.2.2.2.1, c4.2.2.2.2.2) h)
        · rw [if_neg (ntrue hb12)] at h
          refine awp_skip ?_
          show awp _ _ _ _ _ _ _ _
          obtain ⟨x15, hx15, h⟩ := Option.bind_eq_some_iff.1 h
          refine awp_sreg tt_ok (ks := [0, 1, 3, 4, 5, 8, 9, 10, 11, 13, 14, 27, 28, 64]) (hs := [.no, .no, .no, .no, .no, .no, .call [(.agg [(di x10.1.e0), (di x10.1.e1)]), (.agg [(di c4.2.2.2.1), (di c4.2.2.2.2.1)])] (vi x15)]) [(0, vi at_), (1, vi deep), (3, .ref 0 0), (4, .ref 1 0), (5, .ref 7 0), (8, .ref 8 0), (9, .ref 9 0), (10, vb c4.1), (11, .ref 10 0), (13, vi (w64 (x7.Lo + c4.2.1))), (14, .ref 11 0), (27, vi (w64 ((w64 (x1.Hi - x2.Lo)) + 1))), (28, vi c4.2.1), (64, vb (cond (!c4.1) true (decide (x15 < 0))))] [.cells [.d (L56 b0x0)], .cells [.fn (.func 64) [] [.ref 2 0, .ref 3 0]], .cells [.fn (.func 68) [] [.ref 3 0, .ref 4 0, .ref 6 0]], .cells [vi b3x0, .d (L58 b3x1)], .cells [.mp 5], .map (mpo95x99 x10.2), .cells [.fn (.func 65) [] [.ref 0 0, .ref 1 0, .ref 7 0]], .cells [vb b7x0], .cells [vi before.Lo, vi before.Hi], .cells [vi 0, vi 0, vi 0], .cells [vi c4.2.2.2.1, vi c4.2.2.2.2.1, vi c4.2.2.2.2.2], .cells [vi x10.1.e0, vi x10.1.e1]] [((!(!c4.1)) = true → (!(!c4.1)) = true), ((!(!c4.1)) = true → (!(!c4.1)) = true), ((!(!c4.1)) = true → (!(!c4.1)) = true), ((!(!c4.1)) = true → PCall Try.prog 66 [(.agg [(di x10.1.e0), (di x10.1.e1)]), (.agg [(di c4.2.2.2.1), (di c4.2.2.2.2.1)])] (vi x15)), ((!(!c4.1)) = true → (!(!c4.1)) = true), ((!c4.1) = false → (!(!c4.1)) = true)] (by kernel_rfl) (And.intro (id) (And.intro (id) (And.intro (id) (And.intro ((fun hg => ct66 (optG_of hx15 hg))) (And.intro (id) (not_of)))))) ?_
          refine awp_cond (b := (cond (!c4.1) true (decide (x15 < 0)))) (by kernel_rfl) (fun hb16 => ?_) (fun hb16 => ?_)
          · rw [if_pos hb16] at h
            refine awp_region (T' := [(0, vi at_), (1, vi deep), (3, .ref 0 0), (4, .ref 1 0), (5, .ref 7 0), (8, .ref 8 0), (9, .ref 9 0), (10, vb true), (11, .ref 10 0), (27, vi (w64 ((w64 (x1.Hi - x2.Lo)) + 1))), (28, vi c4.2.1)]) (H' := [.cells [.d (L56 b0x0)], .cells [.fn (.func 64) [] [.ref 2 0, .ref 3 0]], .cells [.fn (.func 68) [] [.ref 3 0, .ref 4 0, .ref 6 0]], .cells [vi b3x0, .d (L58 b3x1)], .cells [.mp 5], .map (mpo95x99 x10.2), .cells [.fn (.func 65) [] [.ref 0 0, .ref 1 0, .ref 7 0]], .cells [vb b7x0], .cells [vi before.Lo, vi before.Hi], .cells [vi 0, vi 0, vi 0], .cells [vi x10.1.e0, vi x10.1.e1, vi (w64 (x7.Lo + c4.2.1))], .cells [vi x10.1.e0, vi x10.1.e1]]) (ps := []) tt_ok (ks := [0, 1, 3, 4, 5, 8, 9, 10, 11, 27, 28]) (hs := []) (by kernel_rfl) trivial ?_
            show awp _ _ _ _ _ _ _ _
            refine awp_region (T' := [(0, vi at_), (1, vi deep), (3, .ref 0 0), (4, .ref 1 0), (5, .ref 7 0), (8, .ref 8 0), (9, .ref 9 0), (10, vb true), (11, .ref 10 0), (27, vi (w64 ((w64 (x1.Hi - x2.Lo)) + 1))), (28, vi (w64 (c4.2.1 + 1)))]) (H' := [.cells [.d (L56 b0x0)], .cells [.fn (.func 64) [] [.ref 2 0, .ref 3 0]], .cells [.fn (.func 68) [] [.ref 3 0, .ref 4 0, .ref 6 0]], .cells [vi b3x0, .d (L58 b3x1)], .cells [.mp 5], .map (mpo95x99 x10.2), .cells [.fn (.func 65) [] [.ref 0 0, .ref 1 0, .ref 7 0]], .cells [vb b7x0], .cells [vi before.Lo, vi before.Hi], .cells [vi 0, vi 0, vi 0], .cells [vi x10.1.e0, vi x10.1.e1, vi (w64 (x7.Lo + c4.2.1))], .cells [vi x10.1.e0, vi x10.1.e1]]) (ps := []) tt_ok (ks := [0, 1, 3, 4, 5, 8, 9, 10, 11, 27, 28]) (hs := []) (by kernel_rfl) trivial ?_
            exact awpN_wk 11 [0, 1, 3, 4, 5, 8, 9, 10, 11, 27, 28] (by kernel_rfl) _ _ (by kernel_rfl) (by kernel_rfl) (hrn5 (true, (w64 (c4.2.1 + 1)), x10.2, x10.1.e0, x10.1.e1, (w64 (x7.Lo + c4.2.1))) h)
          · rw [if_neg (ntrue hb16)] at h
            refine awp_skip ?_
            show awp _ _ _ _ _ _ _ _
            refine awp_region (T' := [(0, vi at_), (1, vi deep), (3, .ref 0 0), (4, .ref 1 0), (5, .ref 7 0), (8, .ref 8 0), (9, .ref 9 0), (10, vb c4.1), (11, .ref 10 0), (27, vi (w64 ((w64 (x1.Hi - x2.Lo)) + 1))), (28, vi (w64 (c4.2.1 + 1)))]) (H' := [.cells [.d (L56 b0x0)], .cells [.fn (.func 64) [] [.ref 2 0, .ref 3 0]], .cells [.fn (.func 68) [] [.ref 3 0, .ref 4 0, .ref 6 0]], .cells [vi b3x0, .d (L58 b3x1)], .cells [.mp 5], .map (mpo95x99 x10.2), .cells [.fn (.func 65) [] [.ref 0 0, .ref 1 0, .ref 7 0]], .cells [vb b7x0], .cells [vi before.Lo, vi before.Hi], .cells [vi 0, vi 0, vi 0], .cells [vi c4.2.2.2.1, vi c4.2.2.2.2.1, vi c4.2.2.2.2.2], .cells [vi x10.1.e0, vi x10.1.e1]]) (ps := []) tt_ok (ks := [0, 1, 3, 4, 5, 8, 9, 10, 11, 27, 28]) (hs := []) (by kernel_rfl) trivial ?_
            exact awpN_wk 11 [0, 1, 3, 4, 5, 8, 9, 10, 11, 27, 28] (by kernel_rfl) _ _ (by kernel_rfl) (by kernel_rfl) (hrn5 (c4.1, (w64 (c4.2.1 + 1)), x10.2, c4.2.2.2.1, c4.2.2.2.2.1, c4.2.2.2.2.2) h)
    · rw [if_neg (ntrue hb6)] at h
      refine awp_exit ?_
      obtain rfl := Option.some.inj h
      exact Sel.mk [0, 1, 2, 3, 4, 5, 6, 7, 8, 9, 10] [9, 11] (by kernel_rfl) (by kernel_rfl) (by kernel_rfl) OutQ.norm
  · intro e T H hq
    cases o3 with
    | inl ro3 =>
      obtain ⟨rfl, rfl, rfl⟩ := hq
      rw [outK_inl] at h
      obtain rfl := Option.some.inj h
      exact (main_retS [0, 1, 2, 3, 4, 5, 6, 7] (.d (.agg [(di ro3.1.needs.e0), (di ro3.1.needs.e1), (di ro3.1.next)])) (by kernel_rfl) (by kernel_rfl) (by kernel_rfl) (by kernel_rfl))
    | inr so3 =>
      obtain ⟨rfl, rfl, rfl⟩ := hq
      rw [outK_inr] at h
      show awp _ _ _ _ _ _ _ _
      refine awp_sreg tt_ok (ks := [9]) (hs := []) [(9, .ref 9 0)] [.cells [.d (L56 b0x0)], .cells [.fn (.func 64) [] [.ref 2 0, .ref 3 0]], .cells [.fn (.func 68) [] [.ref 3 0, .ref 4 0, .ref 6 0]], .cells [vi b3x0, .d (L58 b3x1)], .cells [.mp 5], .map (mpo95x99 so3.1), .cells [.fn (.func 65) [] [.ref 0 0, .ref 1 0, .ref 7 0]], .cells [vb b7x0], .cells [vi before.Lo, vi before.Hi], .cells [vi so3.2.1, vi so3.2.2.1, vi so3.2.2.2], .cells [vi so3.2.1, vi so3.2.2.1, vi so3.2.2.2]] [] (by kernel_rfl) trivial ?_
      obtain rfl := Option.some.inj h
      refine awp_wk 11 [9] (by kernel_rfl) [(9, .ref 9 0)] [.cells [.d (L56 b0x0)], .cells [.fn (.func 64) [] [.ref 2 0, .ref 3 0]], .cells [.fn (.func 68) [] [.ref 3 0, .ref 4 0, .ref 6 0]], .cells [vi b3x0, .d (L58 b3x1)], .cells [.mp 5], .map (mpo95x99 so3.1), .cells [.fn (.func 65) [] [.ref 0 0, .ref 1 0, .ref 7 0]], .cells [vb b7x0], .cells [vi before.Lo, vi before.Hi], .cells [vi so3.2.1, vi so3.2.2.1, vi so3.2.2.2], .cells [vi so3.2.1, vi so3.2.2.1, vi so3.2.2.2]] (by kernel_rfl) (by kernel_rfl) ?_
      exact awp_ret (main_retS [0, 1, 2, 3, 4, 5, 6, 7] (.d (.agg [(di so3.2.1), (di so3.2.2.1), (di so3.2.2.2)])) (by kernel_rfl) (by kernel_rfl) (by kernel_rfl) (by kernel_rfl))

theorem ct65 : ∀ {fuel : Nat} {at_ : Int} {deep : Int} {before : S_api_Span} {b0x0 : List S_api_Span} {b3x0 : Int} {b3x1 : List S_api_CvPoint} {m5 : List (S_carve_state × S_carve_rest)} {b7x0 : Bool} {res : S_carve_rest × (List (S_carve_state × S_carve_rest))}, F65 fuel at_ deep before b0x0 b3x0 b3x1 m5 b7x0 = some res → HCall Try.prog 65 [vi at_, vi deep, .d (.agg [(di before.Lo), (di before.Hi)]), .ref 0 0, .ref 1 0, .ref 7 0] [.cells [.d (L56 b0x0)], .cells [.fn (.func 64) [] [.ref 2 0, .ref 3 0]], .cells [.fn (.func 68) [] [.ref 3 0, .ref 4 0, .ref 6 0]], .cells [vi b3x0, .d (L58 b3x1)], .cells [.mp 5], .map (mpo95x99 m5), .cells [.fn (.func 65) [] [.ref 0 0, .ref 1 0, .ref 7 0]], .cells [vb b7x0]] (.d (.agg [(di res.1.needs.e0), (di res.1.needs.e1), (di res.1.next)])) [.cells [.d (L56 b0x0)], .cells [.fn (.func 64) [] [.ref 2 0, .ref 3 0]], .cells [.fn (.func 68) [] [.ref 3 0, .ref 4 0, .ref 6 0]], .cells [vi b3x0, .d (L58 b3x1)], .cells [.mp 5], .map (mpo95x99 res.2), .cells [.fn (.func 65) [] [.ref 0 0, .ref 1 0, .ref 7 0]], .cells [vb b7x0]] := by
  intro fuel
  induction fuel with
  | zero => intro _ _ _ _ _ _ _ _ _ h; exact absurd h (by simp [F65])
  | succ n ih => intro _ _ _ _ _ _ _ _ _ h; exact ct65B (fun _ _ _ _ _ _ _ _ _ h => ih h) h

-- hachure/carve.Best P
def F36L1 (fuel : Nat) (p_r : S_api_CvRow) (passes : Bool) (x3 : (List S_api_Span) × Bool) (x5 : S_carve_rest × (List (S_carve_state × S_carve_rest))) : Nat → ((List (S_carve_state × S_carve_rest)) × Int × Int × (List Int)) → Option (((List Int) × Int × Int × Int) ⊕ (Unit))
  | 0, _ => none
  | n9 + 1, c8 => (need ((c8.2.2.2.length + ([c8.2.2.1] : List Int).length) * 8 ≤ 140737488355328 ∧ c8.2.2.2.length + ([c8.2.2.1] : List Int).length ≤ 9223372036854775807)).bind fun x10 => if (c8.2.1 == (w64 ((p_r.Points.length : Int) - 1))) then (some (.inl ((c8.2.2.2 ++ ([c8.2.2.1] : List Int)), x5.1.needs.e0, x5.1.needs.e1, 0))) else ((F68 (F65 fuel) (⟨c8.2.1, c8.2.2.1⟩ : S_carve_state) p_r.Steep p_r.Points c8.1 x3.1 passes).bind fun x12 => F36L1 fuel p_r passes x3 x5 n9 (x12.2, (w64 (c8.2.1 + 1)), x12.1.next, (c8.2.2.2 ++ ([c8.2.2.1] : List Int))))

def F36 (fuel : Nat)  (p_r : S_api_CvRow) (passes : Bool) : Option ((List Int) × Int × Int × Int) :=
  (F16 fuel p_r).bind fun x1 => if (x1.2.2 != 0) then (some (([] : List Int), 0, 0, x1.2.2)) else ((F51 fuel (⟨p_r⟩ : S_carve_row)).bind fun x3 => if (!x3.2) then (some (([] : List Int), 0, 0, 9)) else ((F65 fuel 0 0 (⟨0, 9000⟩ : S_api_Span) x3.1 p_r.Steep p_r.Points ([] : List (S_carve_state × S_carve_rest)) passes).bind fun x5 => (F36L1 fuel p_r passes x3 x5 fuel (x5.2, 0, x5.1.next, ([] : List Int))).bind fun o7 => outK o7 (fun (ro7 : (List Int) × Int × Int × Int) => some ro7) (fun (_ : Unit) => none)))

set_option maxRecDepth 100000 in
theorem ct36 {fuel : Nat}  {p_r : S_api_CvRow} {passes : Bool} {res : (List Int) × Int × Int × Int} (h : F36 fuel p_r passes = some res) : PCall Try.prog 36 [(.agg [(di p_r.Steep), (L58 p_r.Points)]), (db passes)] (.tup [.d (L3 res.1), vi res.2.1, vi res.2.2.1, vi res.2.2.2]) := by
  refine PCall.of_awp tt_ok (N := 73) Try.func36 rfl (by kernel_rfl) rfl (Nat.le_of_ble_eq_true rfl) rfl ?_
  unfold F36 at h
  refine awp_sreg tt_ok (ks := [2, 3, 4]) (hs := []) [(2, .ref 0 0), (3, .ref 1 0), (4, .d dnil)] [.cells [vi p_r.Steep, .d (L58 p_r.Points)], .cells [vb passes]] [] (by kernel_rfl) trivial ?_
  refine awp_seq ?_
  obtain ⟨x1, hx1, h⟩ := Option.bind_eq_some_iff.1 h
  refine awp_sreg tt_ok (ks := [2, 3, 4, 7]) (hs := [.no, .call [(.agg [(di p_r.Steep), (L58 p_r.Points)])] (.tup [vi x1.1, vi x1.2.1, vi x1.2.2])]) [(2, .ref 0 0), (3, .ref 1 0), (4, .d dnil), (7, vi x1.2.2)] [.cells [vi p_r.Steep, .d (L58 p_r.Points)], .cells [vb passes]] [PCall Try.prog 16 [(.agg [(di p_r.Steep), (L58 p_r.Points)])] (.tup [vi x1.1, vi x1.2.1, vi x1.2.2])] (by kernel_rfl) (ct16 hx1) ?_
  refine awp_sreg tt_ok (ks := [2, 3, 4, 7, 24]) (hs := []) [(2, .ref 0 0), (3, .ref 1 0), (4, .d dnil), (7, vi x1.2.2), (24, vb (x1.2.2 != 0))] [.cells [vi p_r.Steep, .d (L58 p_r.Points)], .cells [vb passes]] [] (by kernel_rfl) trivial ?_
  refine awp_cond (b := (x1.2.2 != 0)) (by kernel_rfl) (fun hb2 => ?_) (fun hb2 => ?_)
  · rw [if_pos hb2] at h
    refine awp_sreg tt_ok (ks := [4, 5, 6, 7]) (hs := []) [(4, .d dnil), (5, vi 0), (6, vi 0), (7, vi x1.2.2)] [.cells [vi p_r.Steep, .d (L58 p_r.Points)], .cells [vb passes]] [] (by kernel_rfl) trivial ?_
    obtain rfl := Option.some.inj h
    refine awp_wk 2 [4, 5, 6, 7] (by kernel_rfl) [(4, .d dnil), (5, vi 0), (6, vi 0), (7, vi x1.2.2)] [.cells [vi p_r.Steep, .d (L58 p_r.Points)], .cells [vb passes]] (by kernel_rfl) (by kernel_rfl) ?_
    refine awp_laxT 4 _ (L3 ([] : List Int)) _ (by kernel_rfl) (.nil (e := 1)) rfl ?_
    refine awp_wk 2 [4, 5, 6, 7] (by kernel_rfl) [(4, .d (L3 ([] : List Int))), (5, vi 0), (6, vi 0), (7, vi x1.2.2)] [.cells [vi p_r.Steep, .d (L58 p_r.Points)], .cells [vb passes]] (by kernel_rfl) (by kernel_rfl) ?_
    exact awp_ret (main_ret (by kernel_rfl))
  · rw [if_neg (ntrue hb2)] at h
    refine awp_skip ?_
    show awp _ _ _ _ _ _ _ _
    refine awp_sreg tt_ok (ks := [2, 3, 4, 8]) (hs := []) [(2, .ref 0 0), (3, .ref 1 0), (4, .d dnil), (8, .ref 2 0)] [.cells [vi p_r.Steep, .d (L58 p_r.Points)], .cells [vb passes], .cells [vi p_r.Steep, .d (L58 p_r.Points)]] [] (by kernel_rfl) trivial ?_
    obtain ⟨x3, hx3, h⟩ := Option.bind_eq_some_iff.1 h
    refine awp_sreg tt_ok (ks := [2, 3, 4, 9, 10]) (hs := [.no, .call [(.agg [(di p_r.Steep), (L58 p_r.Points)])] (.tup [.d (L56 x3.1), vb x3.2])]) [(2, .ref 0 0), (3, .ref 1 0), (4, .d dnil), (9, .ref 3 0), (10, vb x3.2)] [.cells [vi p_r.Steep, .d (L58 p_r.Points)], .cells [vb passes], .cells [vi p_r.Steep, .d (L58 p_r.Points)], .cells [.d (L56 x3.1)]] [PCall Try.prog 51 [(.agg [(di p_r.Steep), (L58 p_r.Points)])] (.tup [.d (L56 x3.1), vb x3.2])] (by kernel_rfl) (ct51 hx3) ?_
    refine awp_seq ?_
    refine awp_sreg tt_ok (ks := [2, 3, 4, 9, 34]) (hs := []) [(2, .ref 0 0), (3, .ref 1 0), (4, .d dnil), (9, .ref 3 0), (34, vb (!x3.2))] [.cells [vi p_r.Steep, .d (L58 p_r.Points)], .cells [vb passes], .cells [vi p_r.Steep, .d (L58 p_r.Points)], .cells [.d (L56 x3.1)]] [] (by kernel_rfl) trivial ?_
    refine awp_cond (b := (!x3.2)) (by kernel_rfl) (fun hb4 => ?_) (fun hb4 => ?_)
    · rw [if_pos hb4] at h
      refine awp_sreg tt_ok (ks := [4, 5, 6, 7]) (hs := []) [(4, .d dnil), (5, vi 0), (6, vi 0), (7, vi 9)] [.cells [vi p_r.Steep, .d (L58 p_r.Points)], .cells [vb passes], .cells [vi p_r.Steep, .d (L58 p_r.Points)], .cells [.d (L56 x3.1)]] [] (by kernel_rfl) trivial ?_
      obtain rfl := Option.some.inj h
      refine awp_wk 4 [4, 5, 6, 7] (by kernel_rfl) [(4, .d dnil), (5, vi 0), (6, vi 0), (7, vi 9)] [.cells [vi p_r.Steep, .d (L58 p_r.Points)], .cells [vb passes], .cells [vi p_r.Steep, .d (L58 p_r.Points)], .cells [.d (L56 x3.1)]] (by kernel_rfl) (by kernel_rfl) ?_
      refine awp_laxT 4 _ (L3 ([] : List Int)) _ (by kernel_rfl) (.nil (e := 1)) rfl ?_
      refine awp_wk 4 [4, 5, 6, 7] (by kernel_rfl) [(4, .d (L3 ([] : List Int))), (5, vi 0), (6, vi 0), (7, vi 9)] [.cells [vi p_r.Steep, .d (L58 p_r.Points)], .cells [vb passes], .cells [vi p_r.Steep, .d (L58 p_r.Points)], .cells [.d (L56 x3.1)]] (by kernel_rfl) (by kernel_rfl) ?_
      exact awp_ret (main_ret (by kernel_rfl))
    · rw [if_neg (ntrue hb4)] at h
      refine awp_skip ?_
      show awp _ _ _ _ _ _ _ _
      refine awp_sreg tt_ok (ks := [2, 3, 4, 9, 11]) (hs := []) [(2, .ref 0 0), (3, .ref 1 0), (4, .d dnil), (9, .ref 3 0), (11, .ref 5 0)] [.cells [vi p_r.Steep, .d (L58 p_r.Points)], .cells [vb passes], .cells [vi p_r.Steep, .d (L58 p_r.Points)], .cells [.d (L56 x3.1)], .map [], .cells [.mp 4]] [] (by kernel_rfl) trivial ?_
      refine awp_sreg tt_ok (ks := [2, 3, 4, 9, 11, 12]) (hs := []) [(2, .ref 0 0), (3, .ref 1 0), (4, .d dnil), (9, .ref 3 0), (11, .ref 5 0), (12, .ref 6 0)] [.cells [vi p_r.Steep, .d (L58 p_r.Points)], .cells [vb passes], .cells [vi p_r.Steep, .d (L58 p_r.Points)], .cells [.d (L56 x3.1)], .map [], .cells [.mp 4], .cells [.d (.v (.nilFunc))]] [] (by kernel_rfl) trivial ?_
      refine awp_sreg tt_ok (ks := [2, 3, 4, 9, 11, 12, 13]) (hs := []) [(2, .ref 0 0), (3, .ref 1 0), (4, .d dnil), (9, .ref 3 0), (11, .ref 5 0), (12, .ref 6 0), (13, .ref 7 0)] [.cells [vi p_r.Steep, .d (L58 p_r.Points)], .cells [vb passes], .cells [vi p_r.Steep, .d (L58 p_r.Points)], .cells [.d (L56 x3.1)], .map [], .cells [.mp 4], .cells [.d (.v (.nilFunc))], .cells [.fn (.func 64) [] [.ref 6 0, .ref 0 0]]] [] (by kernel_rfl) trivial ?_
      refine awp_sreg tt_ok (ks := [2, 4, 11, 12, 14]) (hs := []) [(2, .ref 0 0), (4, .d dnil), (11, .ref 5 0), (12, .ref 6 0), (14, .ref 8 0)] [.cells [vi p_r.Steep, .d (L58 p_r.Points)], .cells [vb passes], .cells [vi p_r.Steep, .d (L58 p_r.Points)], .cells [.d (L56 x3.1)], .map [], .cells [.mp 4], .cells [.d (.v (.nilFunc))], .cells [.fn (.func 64) [] [.ref 6 0, .ref 0 0]], .cells [.fn (.func 65) [] [.ref 3 0, .ref 7 0, .ref 1 0]]] [] (by kernel_rfl) trivial ?_
      refine awp_sreg tt_ok (ks := [2, 4, 12, 14]) (hs := []) [(2, .ref 0 0), (4, .d dnil), (12, .ref 6 0), (14, .ref 8 0)] [.cells [vi p_r.Steep, .d (L58 p_r.Points)], .cells [vb passes], .cells [vi p_r.Steep, .d (L58 p_r.Points)], .cells [.d (L56 x3.1)], .map [], .cells [.mp 4], .cells [.fn (.func 68) [] [.ref 0 0, .ref 5 0, .ref 8 0]], .cells [.fn (.func 64) [] [.ref 6 0, .ref 0 0]], .cells [.fn (.func 65) [] [.ref 3 0, .ref 7 0, .ref 1 0]]] [] (by kernel_rfl) trivial ?_
      obtain ⟨x5, hx5, h⟩ := Option.bind_eq_some_iff.1 h
      refine awp_sreg tt_ok (ks := [2, 4, 12, 15]) (hs := [.no, .no, .hcall [(3, false), (7, false), (6, false), (0, false), (5, false), (4, false), (8, false), (1, false)] (.d (.agg [(di x5.1.needs.e0), (di x5.1.needs.e1), (di x5.1.next)])) [.cells [.d (L56 x3.1)], .cells [.fn (.func 64) [] [.ref 2 0, .ref 3 0]], .cells [.fn (.func 68) [] [.ref 3 0, .ref 4 0, .ref 6 0]], .cells [vi p_r.Steep, .d (L58 p_r.Points)], .cells [.mp 5], .map (mpo95x99 x5.2), .cells [.fn (.func 65) [] [.ref 0 0, .ref 1 0, .ref 7 0]], .cells [vb passes]]]) [(2, .ref 0 0), (4, .d dnil), (12, .ref 6 0), (15, .ref 9 0)] [.cells [vi p_r.Steep, .d (L58 p_r.Points)], .cells [vb passes], .cells [vi p_r.Steep, .d (L58 p_r.Points)], .cells [.d (L56 x3.1)], .map (mpo95x99 x5.2), .cells [.mp 4], .cells [.fn (.func 68) [] [.ref 0 0, .ref 5 0, .ref 8 0]], .cells [.fn (.func 64) [] [.ref 6 0, .ref 0 0]], .cells [.fn (.func 65) [] [.ref 3 0, .ref 7 0, .ref 1 0]], .cells [vi x5.1.needs.e0, vi x5.1.needs.e1, vi x5.1.next]] [HCall Try.prog 65 [vi 0, vi 0, .d (.agg [(di 0), (di 9000)]), .ref 0 0, .ref 1 0, .ref 7 0] [.cells [.d (L56 x3.1)], .cells [.fn (.func 64) [] [.ref 2 0, .ref 3 0]], .cells [.fn (.func 68) [] [.ref 3 0, .ref 4 0, .ref 6 0]], .cells [vi p_r.Steep, .d (L58 p_r.Points)], .cells [.mp 5], .map [], .cells [.fn (.func 65) [] [.ref 0 0, .ref 1 0, .ref 7 0]], .cells [vb passes]] (.d (.agg [(di x5.1.needs.e0), (di x5.1.needs.e1), (di x5.1.next)])) [.cells [.d (L56 x3.1)], .cells [.fn (.func 64) [] [.ref 2 0, .ref 3 0]], .cells [.fn (.func 68) [] [.ref 3 0, .ref 4 0, .ref 6 0]], .cells [vi p_r.Steep, .d (L58 p_r.Points)], .cells [.mp 5], .map (mpo95x99 x5.2), .cells [.fn (.func 65) [] [.ref 0 0, .ref 1 0, .ref 7 0]], .cells [vb passes]]] (by kernel_rfl) (ct65 hx5) ?_
      refine awp_sreg tt_ok (ks := [2, 4, 12, 15, 16]) (hs := []) [(2, .ref 0 0), (4, .d dnil), (12, .ref 6 0), (15, .ref 9 0), (16, .ref 10 0)] [.cells [vi p_r.Steep, .d (L58 p_r.Points)], .cells [vb passes], .cells [vi p_r.Steep, .d (L58 p_r.Points)], .cells [.d (L56 x3.1)], .map (mpo95x99 x5.2), .cells [.mp 4], .cells [.fn (.func 68) [] [.ref 0 0, .ref 5 0, .ref 8 0]], .cells [.fn (.func 64) [] [.ref 6 0, .ref 0 0]], .cells [.fn (.func 65) [] [.ref 3 0, .ref 7 0, .ref 1 0]], .cells [vi x5.1.needs.e0, vi x5.1.needs.e1, vi x5.1.next], .cells [vi 0, vi x5.1.next]] [] (by kernel_rfl) trivial ?_
      refine awp_nil 4 1 (by kernel_rfl) ?_
      refine awp_eq (T' := [(4, .sl 1 11 0 ([] : List Int).length), (2, .ref 0 0), (12, .ref 6 0), (15, .ref 9 0), (16, .ref 10 0)]) (H' := [.cells [vi p_r.Steep, .d (L58 p_r.Points)], .cells [vb passes], .cells [vi p_r.Steep, .d (L58 p_r.Points)], .cells [.d (L56 x3.1)], .map (mpo95x99 x5.2), .cells [.mp 4], .cells [.fn (.func 68) [] [.ref 0 0, .ref 5 0, .ref 8 0]], .cells [.fn (.func 64) [] [.ref 6 0, .ref 0 0]], .cells [.fn (.func 65) [] [.ref 3 0, .ref 7 0, .ref 1 0]], .cells [vi x5.1.needs.e0, vi x5.1.needs.e1, vi x5.1.next], .cells [vi 0, vi x5.1.next], .data (([] : List Int).flatMap cel3)]) (by kernel_rfl) (by kernel_rfl) ?_
      refine awp_wk 12 [2, 4, 12, 15, 16] (by kernel_rfl) [(2, .ref 0 0), (4, .sl 1 11 0 ([] : List Int).length), (12, .ref 6 0), (15, .ref 9 0), (16, .ref 10 0)] [.cells [vi p_r.Steep, .d (L58 p_r.Points)], .cells [vb passes], .cells [vi p_r.Steep, .d (L58 p_r.Points)], .cells [.d (L56 x3.1)], .map (mpo95x99 x5.2), .cells [.mp 4], .cells [.fn (.func 68) [] [.ref 0 0, .ref 5 0, .ref 8 0]], .cells [.fn (.func 64) [] [.ref 6 0, .ref 0 0]], .cells [.fn (.func 65) [] [.ref 3 0, .ref 7 0, .ref 1 0]], .cells [vi x5.1.needs.e0, vi x5.1.needs.e1, vi x5.1.next], .cells [vi 0, vi x5.1.next], .data (([] : List Int).flatMap cel3)] (by kernel_rfl) (by kernel_rfl) ?_
      obtain ⟨o7, ho7, h⟩ := Option.bind_eq_some_iff.1 h
      refine awp_cut1 (OutQ (fun (ro7 : (List Int) × Int × Int × Int) => [(4, .d (L3 ro7.1)), (5, vi ro7.2.1), (6, vi ro7.2.2.1), (7, vi ro7.2.2.2)]) (fun (ro7 : (List Int) × Int × Int × Int) => []) (fun (_ : Unit) => []) (fun (_ : Unit) => []) o7) ?_ ?_
      · clear h
        have h := ho7
        clear ho7
        refine awp_selQ ?_
        refine awp_wk 12 [2, 4, 12, 15, 16] (by kernel_rfl) [(2, .ref 0 0), (4, .sl 1 11 0 ([] : List Int).length), (12, .ref 6 0), (15, .ref 9 0), (16, .ref 10 0)] [.cells [vi p_r.Steep, .d (L58 p_r.Points)], .cells [vb passes], .cells [vi p_r.Steep, .d (L58 p_r.Points)], .cells [.d (L56 x3.1)], .map (mpo95x99 x5.2), .cells [.mp 4], .cells [.fn (.func 68) [] [.ref 0 0, .ref 5 0, .ref 8 0]], .cells [.fn (.func 64) [] [.ref 6 0, .ref 0 0]], .cells [.fn (.func 65) [] [.ref 3 0, .ref 7 0, .ref 1 0]], .cells [vi x5.1.needs.e0, vi x5.1.needs.e1, vi x5.1.next], .cells [vi 0, vi x5.1.next], .data (([] : List Int).flatMap cel3)] (by kernel_rfl) (by kernel_rfl) ?_
        refine awp_block ?_
        refine awp_loop (n := fuel) ?_
        refine awpN_ind (fun n (c8 : (List (S_carve_state × S_carve_rest)) × Int × Int × (List Int)) => F36L1 fuel p_r passes x3 x5 n c8) o7 (fun (c8 : (List (S_carve_state × S_carve_rest)) × Int × Int × (List Int)) => [(2, .ref 0 0), (4, .sl 1 11 0 c8.2.2.2.length), (12, .ref 6 0), (15, .ref 9 0), (16, .ref 10 0)]) (fun (c8 : (List (S_carve_state × S_carve_rest)) × Int × Int × (List Int)) => [.cells [vi p_r.Steep, .d (L58 p_r.Points)], .cells [vb passes], .cells [vi p_r.Steep, .d (L58 p_r.Points)], .cells [.d (L56 x3.1)], .map (mpo95x99 c8.1), .cells [.mp 4], .cells [.fn (.func 68) [] [.ref 0 0, .ref 5 0, .ref 8 0]], .cells [.fn (.func 64) [] [.ref 6 0, .ref 0 0]], .cells [.fn (.func 65) [] [.ref 3 0, .ref 7 0, .ref 1 0]], .cells [vi x5.1.needs.e0, vi x5.1.needs.e1, vi x5.1.next], .cells [vi c8.2.1, vi c8.2.2.1], .data (c8.2.2.2.flatMap cel3)]) (fun _ => rfl) ?_ fuel (x5.2, 0, x5.1.next, ([] : List Int)) h
        clear h
        intro n9 c8 h hrn9
        change F36L1 fuel p_r passes x3 x5 (n9 + 1) c8 = some o7 at h
        rw [F36L1] at h
        refine awp_seq ?_
        refine awp_block ?_
        obtain ⟨x10, hx10, h⟩ := Option.bind_eq_some_iff.1 h
        refine awp_sreg tt_ok (ks := [2, 4, 12, 15, 16]) (hs := [.no, .no, .no, .no, .list (c8.2.2.2 ++ ([c8.2.2.1] : List Int)).length ((c8.2.2.2 ++ ([c8.2.2.1] : List Int)).flatMap cel3)]) [(2, .ref 0 0), (4, .sl 1 11 0 (c8.2.2.2 ++ ([c8.2.2.1] : List Int)).length), (12, .ref 6 0), (15, .ref 9 0), (16, .ref 10 0)] [.cells [vi p_r.Steep, .d (L58 p_r.Points)], .cells [vb passes], .cells [vi p_r.Steep, .d (L58 p_r.Points)], .cells [.d (L56 x3.1)], .map (mpo95x99 c8.1), .cells [.mp 4], .cells [.fn (.func 68) [] [.ref 0 0, .ref 5 0, .ref 8 0]], .cells [.fn (.func 64) [] [.ref 6 0, .ref 0 0]], .cells [.fn (.func 65) [] [.ref 3 0, .ref 7 0, .ref 1 0]], .cells [vi x5.1.needs.e0, vi x5.1.needs.e1, vi x5.1.next], .cells [vi c8.2.1, vi c8.2.2.1], .data ((c8.2.2.2 ++ ([c8.2.2.1] : List Int)).flatMap cel3)] [AppendOk ((c8.2.2.2.flatMap cel3).map .d) c8.2.2.2.length ([c8.2.2.1] : List Int).length (c8.2.2.2 ++ ([c8.2.2.1] : List Int)).length 1 8 (([c8.2.2.1] : List Int).flatMap cel3) ((c8.2.2.2 ++ ([c8.2.2.1] : List Int)).flatMap cel3)] (by kernel_rfl) (appendOk cel3_len (need_of hx10)) ?_
        refine awp_sreg tt_ok (ks := [2, 4, 12, 15, 16, 64]) (hs := []) [(2, .ref 0 0), (4, .sl 1 11 0 (c8.2.2.2 ++ ([c8.2.2.1] : List Int)).length), (12, .ref 6 0), (15, .ref 9 0), (16, .ref 10 0), (64, vb (c8.2.1 == (w64 ((p_r.Points.length : Int) - 1))))] [.cells [vi p_r.Steep, .d (L58 p_r.Points)], .cells [vb passes], .cells [vi p_r.Steep, .d (L58 p_r.Points)], .cells [.d (L56 x3.1)], .map (mpo95x99 c8.1), .cells [.mp 4], .cells [.fn (.func 68) [] [.ref 0 0, .ref 5 0, .ref 8 0]], .cells [.fn (.func 64) [] [.ref 6 0, .ref 0 0]], .cells [.fn (.func 65) [] [.ref 3 0, .ref 7 0, .ref 1 0]], .cells [vi x5.1.needs.e0, vi x5.1.needs.e1, vi x5.1.next], .cells [vi c8.2.1, vi c8.2.2.1], .data ((c8.2.2.2 ++ ([c8.2.2.1] : List Int)).flatMap cel3)] [] (by kernel_rfl) trivial ?_
        refine awp_cond (b := (c8.2.1 == (w64 ((p_r.Points.length : Int) - 1)))) (by kernel_rfl) (fun hb11 => ?_) (fun hb11 => ?_)
        · rw [if_pos hb11] at h
          refine awp_sdraw tt_ok mixed (ks := [4, 5, 6, 7]) (hs := []) 9 [4, 5, 6, 7, 71] [(4, .sl 1 11 0 (c8.2.2.2 ++ ([c8.2.2.1] : List Int)).length), (5, vi x5.1.needs.e0), (6, vi x5.1.needs.e1), (7, vi 0)] [.cells [vi p_r.Steep, .d (L58 p_r.Points)], .cells [vb passes], .cells [vi p_r.Steep, .d (L58 p_r.Points)], .cells [.d (L56 x3.1)], .map (mpo95x99 c8.1), .cells [.mp 4], .cells [.fn (.func 68) [] [.ref 0 0, .ref 5 0, .ref 8 0]], .cells [.fn (.func 64) [] [.ref 6 0, .ref 0 0]], .cells [.fn (.func 65) [] [.ref 3 0, .ref 7 0, .ref 1 0]], .cells [vi x5.1.needs.e0, vi x5.1.needs.e1, vi x5.1.next], .cells [vi c8.2.1, vi c8.2.2.1], .data ((c8.2.2.2 ++ ([c8.2.2.1] : List Int)).flatMap cel3)] [(0 ≤ (0 : Int) ∧ (0 : Int) < (2 : Int)), (0 ≤ (1 : Int) ∧ (1 : Int) < (2 : Int))] (by kernel_rfl) (And.intro ((by decide : 0 ≤ (0 : Int) ∧ (0 : Int) < (2 : Int))) ((by decide : 0 ≤ (1 : Int) ∧ (1 : Int) < (2 : Int)))) ?_
          obtain rfl := Option.some.inj h
          refine awp_wk 12 [4, 5, 6, 7] (by kernel_rfl) [(4, .sl 1 11 0 (c8.2.2.2 ++ ([c8.2.2.1] : List Int)).length), (5, vi x5.1.needs.e0), (6, vi x5.1.needs.e1), (7, vi 0)] [.cells [vi p_r.Steep, .d (L58 p_r.Points)], .cells [vb passes], .cells [vi p_r.Steep, .d (L58 p_r.Points)], .cells [.d (L56 x3.1)], .map (mpo95x99 c8.1), .cells [.mp 4], .cells [.fn (.func 68) [] [.ref 0 0, .ref 5 0, .ref 8 0]], .cells [.fn (.func 64) [] [.ref 6 0, .ref 0 0]], .cells [.fn (.func 65) [] [.ref 3 0, .ref 7 0, .ref 1 0]], .cells [vi x5.1.needs.e0, vi x5.1.needs.e1, vi x5.1.next], .cells [vi c8.2.1, vi c8.2.2.1], .data ((c8.2.2.2 ++ ([c8.2.2.1] : List Int)).flatMap cel3)] (by kernel_rfl) (by kernel_rfl) ?_
          refine awp_freeze 4 11 ((c8.2.2.2 ++ ([c8.2.2.1] : List Int)).flatMap cel3) (.sl 1 11 0 (c8.2.2.2 ++ ([c8.2.2.1] : List Int)).length) (.d (L3 (c8.2.2.2 ++ ([c8.2.2.1] : List Int)))) _ _ (ps := [((c8.2.2.2 ++ ([c8.2.2.1] : List Int)).flatMap cel3).length = (c8.2.2.2 ++ ([c8.2.2.1] : List Int)).length * 1]) (by kernel_rfl) (by kernel_rfl) (by kernel_rfl) (flatMap_len cel3 1 cel3_len (c8.2.2.2 ++ ([c8.2.2.1] : List Int))) rfl rfl ?_
          refine awp_wk 12 [4, 5, 6, 7] (by kernel_rfl) [(4, .d (L3 (c8.2.2.2 ++ ([c8.2.2.1] : List Int)))), (5, vi x5.1.needs.e0), (6, vi x5.1.needs.e1), (7, vi 0)] [.cells [vi p_r.Steep, .d (L58 p_r.Points)], .cells [vb passes], .cells [vi p_r.Steep, .d (L58 p_r.Points)], .cells [.d (L56 x3.1)], .map (mpo95x99 c8.1), .cells [.mp 4], .cells [.fn (.func 68) [] [.ref 0 0, .ref 5 0, .ref 8 0]], .cells [.fn (.func 64) [] [.ref 6 0, .ref 0 0]], .cells [.fn (.func 65) [] [.ref 3 0, .ref 7 0, .ref 1 0]], .cells [vi x5.1.needs.e0, vi x5.1.needs.e1, vi x5.1.next], .cells [vi c8.2.1, vi c8.2.2.1], .data (([] : List Int).flatMap cel3)] (by kernel_rfl) (by kernel_rfl) ?_
          exact awp_ret (Sel.mk [] [4, 5, 6, 7] (by kernel_rfl) (by kernel_rfl) (by kernel_rfl) OutQ.ret)
        · rw [if_neg (ntrue hb11)] at h
          refine awp_skip ?_
          show awp _ _ _ _ _ _ _ _
          refine awp_seq ?_
          refine awp_sreg tt_ok (ks := [2, 4, 12, 15, 72]) (hs := []) [(2, .ref 0 0), (4, .sl 1 11 0 (c8.2.2.2 ++ ([c8.2.2.1] : List Int)).length), (12, .ref 6 0), (15, .ref 9 0), (72, .d (.agg [(di c8.2.1), (di c8.2.2.1)]))] [.cells [vi p_r.Steep, .d (L58 p_r.Points)], .cells [vb passes], .cells [vi p_r.Steep, .d (L58 p_r.Points)], .cells [.d (L56 x3.1)], .map (mpo95x99 c8.1), .cells [.mp 4], .cells [.fn (.func 68) [] [.ref 0 0, .ref 5 0, .ref 8 0]], .cells [.fn (.func 64) [] [.ref 6 0, .ref 0 0]], .cells [.fn (.func 65) [] [.ref 3 0, .ref 7 0, .ref 1 0]], .cells [vi x5.1.needs.e0, vi x5.1.needs.e1, vi x5.1.next], .cells [vi c8.2.1, vi c8.2.2.1], .data ((c8.2.2.2 ++ ([c8.2.2.1] : List Int)).flatMap cel3)] [] (by kernel_rfl) trivial ?_
          refine awp_region (T' := [(2, .ref 0 0), (4, .sl 1 11 0 (c8.2.2.2 ++ ([c8.2.2.1] : List Int)).length), (12, .ref 6 0), (15, .ref 9 0), (16, .ref 12 0)]) (H' := [.cells [vi p_r.Steep, .d (L58 p_r.Points)], .cells [vb passes], .cells [vi p_r.Steep, .d (L58 p_r.Points)], .cells [.d (L56 x3.1)], .map (mpo95x99 c8.1), .cells [.mp 4], .cells [.fn (.func 68) [] [.ref 0 0, .ref 5 0, .ref 8 0]], .cells [.fn (.func 64) [] [.ref 6 0, .ref 0 0]], .cells [.fn (.func 65) [] [.ref 3 0, .ref 7 0, .ref 1 0]], .cells [vi x5.1.needs.e0, vi x5.1.needs.e1, vi x5.1.next], .cells [vi c8.2.1, vi c8.2.2.1], .data ((c8.2.2.2 ++ ([c8.2.2.1] : List Int)).flatMap cel3), .cells [vi c8.2.1, vi c8.2.2.1]]) (ps := []) tt_ok (ks := [2, 4, 12, 15, 16]) (hs := []) (by kernel_rfl) trivial ?_
          show awp _ _ _ _ _ _ _ _
          obtain ⟨x12, hx12, h⟩ := Option.bind_eq_some_iff.1 h
          refine awp_any (T' := [(2, .ref 0 0), (4, .sl 1 11 0 (c8.2.2.2 ++ ([c8.2.2.1] : List Int)).length), (12, .ref 6 0), (15, .ref 9 0), (16, .ref 12 0)]) (H' := [.cells [vi p_r.Steep, .d (L58 p_r.Points)], .cells [vb passes], .cells [vi p_r.Steep, .d (L58 p_r.Points)], .cells [.d (L56 x3.1)], .map (mpo95x99 x12.2), .cells [.mp 4], .cells [.fn (.func 68) [] [.ref 0 0, .ref 5 0, .ref 8 0]], .cells [.fn (.func 64) [] [.ref 6 0, .ref 0 0]], .cells [.fn (.func 65) [] [.ref 3 0, .ref 7 0, .ref 1 0]], .cells [vi x5.1.needs.e0, vi x5.1.needs.e1, vi x5.1.next], .cells [vi c8.2.1, vi c8.2.2.1], .data ((c8.2.2.2 ++ ([c8.2.2.1] : List Int)).flatMap cel3), .cells [vi (w64 (c8.2.1 + 1)), vi x12.1.next]]) (ps := [HCall Try.prog 68 [.d (.agg [(di c8.2.1), (di c8.2.2.1)]), .ref 0 0, .ref 1 0, .ref 3 0] [.cells [vi p_r.Steep, .d (L58 p_r.Points)], .cells [.mp 2], .map (mpo95x99 c8.1), .cells [.fn (.func 65) [] [.ref 4 0, .ref 5 0, .ref 7 0]], .cells [.d (L56 x3.1)], .cells [.fn (.func 64) [] [.ref 6 0, .ref 0 0]], .cells [.fn (.func 68) [] [.ref 0 0, .ref 1 0, .ref 3 0]], .cells [vb passes]] (.d (.agg [(di x12.1.needs.e0), (di x12.1.needs.e1), (di x12.1.next)])) [.cells [vi p_r.Steep, .d (L58 p_r.Points)], .cells [.mp 2], .map (mpo95x99 x12.2), .cells [.fn (.func 65) [] [.ref 4 0, .ref 5 0, .ref 7 0]], .cells [.d (L56 x3.1)], .cells [.fn (.func 64) [] [.ref 6 0, .ref 0 0]], .cells [.fn (.func 68) [] [.ref 0 0, .ref 1 0, .ref 3 0]], .cells [vb passes]]]) tt_ok mixed (ks := [2, 4, 12, 15, 16]) (hs := [.no, .no, .no, .no, .no, .hcall [(0, false), (5, false), (4, false), (8, false), (3, false), (7, false), (6, false), (1, false)] (.d (.agg [(di x12.1.needs.e0), (di x12.1.needs.e1), (di x12.1.next)])) [.cells [vi p_r.Steep, .d (L58 p_r.Points)], .cells [.mp 2], .map (mpo95x99 x12.2), .cells [.fn (.func 65) [] [.ref 4 0, .ref 5 0, .ref 7 0]], .cells [.d (L56 x3.1)], .cells [.fn (.func 64) [] [.ref 6 0, .ref 0 0]], .cells [.fn (.func 68) [] [.ref 0 0, .ref 1 0, .ref 3 0]], .cells [vb passes]]]) (m := 7) (mid := [2, 4, 12, 15, 16, 47, 51, 52]) (by kernel_rfl) (ct68 (fun _ _ _ _ _ _ _ _ _ h => ct65 h) hx12) ?_
          exact awpN_sel [0, 1, 2, 3, 4, 5, 6, 7, 8, 9, 12, 11] [2, 4, 12, 15, 16] _ _ (by kernel_rfl) (by kernel_rfl) (by kernel_rfl) (hrn9 (x12.2, (w64 (c8.2.1 + 1)), x12.1.next, (c8.2.2.2 ++ ([c8.2.2.1] : List Int))) h)
      · intro e T H hq
        cases o7 with
        | inl ro7 =>
          obtain ⟨rfl, rfl, rfl⟩ := hq
          rw [outK_inl] at h
          obtain rfl := Option.some.inj h
          exact main_ret (by kernel_rfl)
        | inr so7 =>
          rw [outK_inr] at h
          exact absurd h (by simp)

-- hachure/hachureref01.Ints P
def F35L1 (p_a : (List Int)) (p_b : (List Int)) : Nat → Int → Option ((Bool) ⊕ (Unit))
  | 0, _ => none
  | n4 + 1, c3 => if (decide (c3 < (p_a.length : Int))) then ((idx p_a c3).bind fun x6 => (idx p_b c3).bind fun x7 => if (x6 != x7) then (some (.inl false)) else (F35L1 p_a p_b n4 (w64 (c3 + 1)))) else (some (.inr ()))

def F35 (fuel : Nat)  (p_a : (List Int)) (p_b : (List Int)) : Option (Bool) :=
  if ((p_a.length : Int) != (p_b.length : Int)) then (some false) else ((F35L1 p_a p_b fuel 0).bind fun o2 => outK o2 (fun (ro2 : Bool) => some ro2) (fun (so2 : Unit) => some true))

set_option maxRecDepth 100000 in
theorem ct35 {fuel : Nat}  {p_a : (List Int)} {p_b : (List Int)} {res : Bool} (h : F35 fuel p_a p_b = some res) : PCall Try.prog 35 [(L3 p_a), (L3 p_b)] (vb res) := by
  refine PCall.of_awp tt_ok (N := 26) Try.func35 rfl (by kernel_rfl) rfl (Nat.le_of_ble_eq_true rfl) rfl ?_
  unfold F35 at h
  refine awp_sreg tt_ok (ks := [0, 1]) (hs := []) [(0, .d (L3 p_a)), (1, .d (L3 p_b))] [] [] (by kernel_rfl) trivial ?_
  refine awp_seq ?_
  refine awp_sreg tt_ok (ks := [0, 1, 10]) (hs := []) [(0, .d (L3 p_a)), (1, .d (L3 p_b)), (10, vb ((p_a.length : Int) != (p_b.length : Int)))] [] [] (by kernel_rfl) trivial ?_
  refine awp_cond (b := ((p_a.length : Int) != (p_b.length : Int))) (by kernel_rfl) (fun hb1 => ?_) (fun hb1 => ?_)
  · rw [if_pos hb1] at h
    refine awp_sreg tt_ok (ks := [4]) (hs := []) [(4, vb false)] [] [] (by kernel_rfl) trivial ?_
    obtain rfl := Option.some.inj h
    refine awp_wk 0 [4] (by kernel_rfl) [(4, vb false)] [] (by kernel_rfl) (by kernel_rfl) ?_
    exact awp_ret (main_ret (by kernel_rfl))
  · rw [if_neg (ntrue hb1)] at h
    refine awp_skip ?_
    show awp _ _ _ _ _ _ _ _
    refine awp_seq ?_
    refine awp_sreg tt_ok (ks := [0, 1, 5]) (hs := []) [(0, .d (L3 p_a)), (1, .d (L3 p_b)), (5, vi 0)] [] [] (by kernel_rfl) trivial ?_
    obtain ⟨o2, ho2, h⟩ := Option.bind_eq_some_iff.1 h
    refine awp_cut1 (OutQ (fun (ro2 : Bool) => [(4, vb ro2)]) (fun (ro2 : Bool) => []) (fun (so2 : Unit) => []) (fun (so2 : Unit) => []) o2) ?_ ?_
    · clear h
      have h := ho2
      clear ho2
      refine awp_selQ ?_
      refine awp_wk 0 [0, 1, 5] (by kernel_rfl) [(0, .d (L3 p_a)), (1, .d (L3 p_b)), (5, vi 0)] [] (by kernel_rfl) (by kernel_rfl) ?_
      refine awp_block ?_
      refine awp_loop (n := fuel) ?_
      refine awpN_ind (fun n (c3 : Int) => F35L1 p_a p_b n c3) o2 (fun (c3 : Int) => [(0, .d (L3 p_a)), (1, .d (L3 p_b)), (5, vi c3)]) (fun (c3 : Int) => []) (fun _ => rfl) ?_ fuel 0 h
      clear h
      intro n4 c3 h hrn4
      change F35L1 p_a p_b (n4 + 1) c3 = some o2 at h
      rw [F35L1] at h
      refine awp_seq ?_
      refine awp_sreg tt_ok (ks := [0, 1, 5, 14]) (hs := []) [(0, .d (L3 p_a)), (1, .d (L3 p_b)), (5, vi c3), (14, vb (decide (c3 < (p_a.length : Int))))] [] [] (by kernel_rfl) trivial ?_
      refine awp_cond (b := (decide (c3 < (p_a.length : Int)))) (by kernel_rfl) (fun hb5 => ?_) (fun hb5 => ?_)
      · rw [if_pos hb5] at h
        refine awp_skip ?_
        show awp _ _ _ _ _ _ _ _
        refine awp_seq ?_
        refine awp_block ?_
        obtain ⟨x6, hx6, h⟩ := Option.bind_eq_some_iff.1 h
        obtain ⟨x7, hx7, h⟩ := Option.bind_eq_some_iff.1 h
        refine awp_sdraw tt_ok mixed (ks := [0, 1, 5, 25]) (hs := [.no, .no, .cells (cel3 x6), .no, .no, .no, .cells (cel3 x7)]) 8 [0, 1, 5, 20, 24, 25] [(0, .d (L3 p_a)), (1, .d (L3 p_b)), (5, vi c3), (25, vb (x6 != x7))] [] [IX3 p_a c3 x6, IX3 p_b c3 x7] (by kernel_rfl) (And.intro (idxOk cel3_len hx6) (idxOk cel3_len hx7)) ?_
        refine awp_cond (b := (x6 != x7)) (by kernel_rfl) (fun hb8 => ?_) (fun hb8 => ?_)
        · rw [if_pos hb8] at h
          refine awp_sreg tt_ok (ks := [4]) (hs := []) [(4, vb false)] [] [] (by kernel_rfl) trivial ?_
          obtain rfl := Option.some.inj h
          refine awp_wk 0 [4] (by kernel_rfl) [(4, vb false)] [] (by kernel_rfl) (by kernel_rfl) ?_
          exact awp_ret (Sel.mk [] [4] (by kernel_rfl) (by kernel_rfl) (by kernel_rfl) OutQ.ret)
        · rw [if_neg (ntrue hb8)] at h
          refine awp_skip ?_
          show awp _ _ _ _ _ _ _ _
          refine awp_region (T' := [(0, .d (L3 p_a)), (1, .d (L3 p_b)), (5, vi (w64 (c3 + 1)))]) (H' := []) (ps := []) tt_ok (ks := [0, 1, 5]) (hs := []) (by kernel_rfl) trivial ?_
          exact awpN_wk 0 [0, 1, 5] (by kernel_rfl) _ _ (by kernel_rfl) (by kernel_rfl) (hrn4 (w64 (c3 + 1)) h)
      · rw [if_neg (ntrue hb5)] at h
        refine awp_exit ?_
        obtain rfl := Option.some.inj h
        exact Sel.mk [] [] (by kernel_rfl) (by kernel_rfl) (by kernel_rfl) OutQ.norm
    · intro e T H hq
      cases o2 with
      | inl ro2 =>
        obtain ⟨rfl, rfl, rfl⟩ := hq
        rw [outK_inl] at h
        obtain rfl := Option.some.inj h
        exact main_ret (by kernel_rfl)
      | inr so2 =>
        obtain ⟨rfl, rfl, rfl⟩ := hq
        rw [outK_inr] at h
        show awp _ _ _ _ _ _ _ _
        refine awp_sreg tt_ok (ks := [4]) (hs := []) [(4, vb true)] [] [] (by kernel_rfl) trivial ?_
        obtain rfl := Option.some.inj h
        refine awp_wk 0 [4] (by kernel_rfl) [(4, vb true)] [] (by kernel_rfl) (by kernel_rfl) ?_
        exact awp_ret (main_ret (by kernel_rfl))

-- hachure/carve.Bounds P
def F18 (fuel : Nat)  (p_r : S_api_CvRow) : Option ((List S_api_Span) × Int) :=
  (F16 fuel p_r).bind fun x1 => if (x1.2.2 != 0) then (some (([] : List S_api_Span), x1.2.2)) else ((F51 fuel (⟨p_r⟩ : S_carve_row)).bind fun x3 => if (!x3.2) then (some (([] : List S_api_Span), 9)) else (some (x3.1, 0)))

set_option maxRecDepth 100000 in
theorem ct18 {fuel : Nat}  {p_r : S_api_CvRow} {res : (List S_api_Span) × Int} (h : F18 fuel p_r = some res) : PCall Try.prog 18 [(.agg [(di p_r.Steep), (L58 p_r.Points)])] (.tup [.d (L56 res.1), vi res.2]) := by
  refine PCall.of_awp tt_ok (N := 27) Try.func18 rfl (by kernel_rfl) rfl (Nat.le_of_ble_eq_true rfl) rfl ?_
  unfold F18 at h
  refine awp_sreg tt_ok (ks := [1]) (hs := []) [(1, .ref 0 0)] [.cells [vi p_r.Steep, .d (L58 p_r.Points)]] [] (by kernel_rfl) trivial ?_
  refine awp_seq ?_
  obtain ⟨x1, hx1, h⟩ := Option.bind_eq_some_iff.1 h
  refine awp_sreg tt_ok (ks := [1, 6]) (hs := [.no, .call [(.agg [(di p_r.Steep), (L58 p_r.Points)])] (.tup [vi x1.1, vi x1.2.1, vi x1.2.2])]) [(1, .ref 0 0), (6, vi x1.2.2)] [.cells [vi p_r.Steep, .d (L58 p_r.Points)]] [PCall Try.prog 16 [(.agg [(di p_r.Steep), (L58 p_r.Points)])] (.tup [vi x1.1, vi x1.2.1, vi x1.2.2])] (by kernel_rfl) (ct16 hx1) ?_
  refine awp_sreg tt_ok (ks := [1, 6, 16]) (hs := []) [(1, .ref 0 0), (6, vi x1.2.2), (16, vb (x1.2.2 != 0))] [.cells [vi p_r.Steep, .d (L58 p_r.Points)]] [] (by kernel_rfl) trivial ?_
  refine awp_cond (b := (x1.2.2 != 0)) (by kernel_rfl) (fun hb2 => ?_) (fun hb2 => ?_)
  · rw [if_pos hb2] at h
    refine awp_sreg tt_ok (ks := [2, 3]) (hs := []) [(2, .d dnil), (3, vi x1.2.2)] [.cells [vi p_r.Steep, .d (L58 p_r.Points)]] [] (by kernel_rfl) trivial ?_
    obtain rfl := Option.some.inj h
    refine awp_wk 1 [2, 3] (by kernel_rfl) [(2, .d dnil), (3, vi x1.2.2)] [.cells [vi p_r.Steep, .d (L58 p_r.Points)]] (by kernel_rfl) (by kernel_rfl) ?_
    refine awp_laxT 2 _ (L56 ([] : List S_api_Span)) _ (by kernel_rfl) (.nil (e := 2)) rfl ?_
    refine awp_wk 1 [2, 3] (by kernel_rfl) [(2, .d (L56 ([] : List S_api_Span))), (3, vi x1.2.2)] [.cells [vi p_r.Steep, .d (L58 p_r.Points)]] (by kernel_rfl) (by kernel_rfl) ?_
    exact awp_ret (main_ret (by kernel_rfl))
  · rw [if_neg (ntrue hb2)] at h
    refine awp_skip ?_
    show awp _ _ _ _ _ _ _ _
    obtain ⟨x3, hx3, h⟩ := Option.bind_eq_some_iff.1 h
    refine awp_sreg tt_ok (ks := [7, 8]) (hs := [.no, .no, .call [(.agg [(di p_r.Steep), (L58 p_r.Points)])] (.tup [.d (L56 x3.1), vb x3.2])]) [(7, .d (L56 x3.1)), (8, vb x3.2)] [.cells [vi p_r.Steep, .d (L58 p_r.Points)]] [PCall Try.prog 51 [(.agg [(di p_r.Steep), (L58 p_r.Points)])] (.tup [.d (L56 x3.1), vb x3.2])] (by kernel_rfl) (ct51 hx3) ?_
    refine awp_seq ?_
    refine awp_sreg tt_ok (ks := [7, 25]) (hs := []) [(7, .d (L56 x3.1)), (25, vb (!x3.2))] [.cells [vi p_r.Steep, .d (L58 p_r.Points)]] [] (by kernel_rfl) trivial ?_
    refine awp_cond (b := (!x3.2)) (by kernel_rfl) (fun hb4 => ?_) (fun hb4 => ?_)
    · rw [if_pos hb4] at h
      refine awp_sreg tt_ok (ks := [2, 3]) (hs := []) [(2, .d dnil), (3, vi 9)] [.cells [vi p_r.Steep, .d (L58 p_r.Points)]] [] (by kernel_rfl) trivial ?_
      obtain rfl := Option.some.inj h
      refine awp_wk 1 [2, 3] (by kernel_rfl) [(2, .d dnil), (3, vi 9)] [.cells [vi p_r.Steep, .d (L58 p_r.Points)]] (by kernel_rfl) (by kernel_rfl) ?_
      refine awp_laxT 2 _ (L56 ([] : List S_api_Span)) _ (by kernel_rfl) (.nil (e := 2)) rfl ?_
      refine awp_wk 1 [2, 3] (by kernel_rfl) [(2, .d (L56 ([] : List S_api_Span))), (3, vi 9)] [.cells [vi p_r.Steep, .d (L58 p_r.Points)]] (by kernel_rfl) (by kernel_rfl) ?_
      exact awp_ret (main_ret (by kernel_rfl))
    · rw [if_neg (ntrue hb4)] at h
      refine awp_skip ?_
      show awp _ _ _ _ _ _ _ _
      refine awp_sreg tt_ok (ks := [2, 3]) (hs := []) [(2, .d (L56 x3.1)), (3, vi 0)] [.cells [vi p_r.Steep, .d (L58 p_r.Points)]] [] (by kernel_rfl) trivial ?_
      obtain rfl := Option.some.inj h
      refine awp_wk 1 [2, 3] (by kernel_rfl) [(2, .d (L56 x3.1)), (3, vi 0)] [.cells [vi p_r.Steep, .d (L58 p_r.Points)]] (by kernel_rfl) (by kernel_rfl) ?_
      exact awp_ret (main_ret (by kernel_rfl))

end Go.Proofs.Ytadejgckgnbaoaa
