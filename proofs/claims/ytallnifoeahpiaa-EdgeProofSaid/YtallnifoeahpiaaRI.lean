/- Bounds of proofs are at most what changes cost; when they are as much. -/
import Derived.Test.YtallnifoeahpiaaP1
import Derived.Test.YtallnifoeahpiaaR7
import Derived.Test.YtallnifoeahpiaaDEH
namespace Go.Proofs.Ytallnifoeahpiaa
open Go Go.Sx
set_option linter.all false

theorem sumN_zero:∀{n:Nat} {f:Nat→Int},(∀i,i<n→f i=0)→sumN n f=0:=by
 intro n
 induction n with
 | zero=>intro f _;rfl
 | succ n ih=>intro f h;rw [sumN,ih (fun i hi=>h i (by omega)),h n (by omega)];rfl

theorem pick {a q:Int} {f:Nat→Int}:∀{n:Nat},0≤a→sumN n (fun v=>(if a=(v:Int) then q else 0)*f v)=if a<n then q*f a.toNat else 0:=by
 intro n
 induction n with
 | zero=>intro h;rw [if_neg (by omega)];rfl
 | succ n ih =>
  intro h
  rw [sumN,ih h]
  by_cases e:a=(n:Int)
  ·rw [if_pos e,if_neg (by omega),if_pos (by omega),e,Int.toNat_natCast];omega
  ·rw [if_neg e,Int.zero_mul]
   by_cases e2:a<n
   ·rw [if_pos e2,if_pos (by omega)];omega
   ·rw [if_neg e2,if_neg (by omega)];rfl

theorem weight {c:Cs} (hv:Val c) (p:List Int) (f:Nat→Int):∀e,e≤c.Edges.length→sumN c.Sheets.length (fun v=>gvp c p e v*f v)=sumN e (fun i=>p[i]! * (f c.Edges[i]!.A.toNat-f c.Edges[i]!.B.toNat)):=by
 intro e
 induction e with
 | zero=>intro _;exact sumN_zero fun v _=>by simp [gvp,sumN]
 | succ e ih =>
  intro he
  have hen:=ends hv (i:=e) (by omega)
  have h1:sumN c.Sheets.length (fun v=>gvp c p (e+1) v*f v)=sumN c.Sheets.length (fun v=>gvp c p e v*f v)+(sumN c.Sheets.length (fun v=>(if c.Edges[e]!.A=(v:Int) then p[e]! else 0)*f v)+sumN c.Sheets.length (fun v=>(if c.Edges[e]!.B=(v:Int) then -p[e]! else 0)*f v)):=by
   rw [←sumN_add,←sumN_add]
   refine sumN_congr fun v _=>?_
   show (sumN e _+_)*f v=gvp c p e v*f v+_
   rw [Int.add_mul]
   show gvp c p e v*f v+_=_
   congr 1
   rw [←Int.add_mul]
   congr 1
   dsimp only
   by_cases a:c.Edges[e]!.B=(v:Int)
   ·rw [if_pos a,if_pos a];omega
   ·rw [if_neg a,if_neg a];omega
  rw [h1,ih (by omega),pick hen.1.1,pick hen.2.1,if_pos hen.1.2,if_pos hen.2.2,sumN,Int.mul_sub,Int.neg_mul]
  omega
theorem weigh {c:Cs} (hv:Val c) (p:List Int) (f:Nat→Int):sumN c.Sheets.length (fun v=>gv c p v*f v)=sumN c.Edges.length (fun i=>p[i]! * (f c.Edges[i]!.A.toNat-f c.Edges[i]!.B.toNat)):=weight hv p f _ (Nat.le_refl _)
theorem mul_abs (g y:Int):g*y≤absI g*absI y:=by
 unfold absI
 by_cases hg:0-g>g
 ·by_cases hy:0-y>y
  ·rw [if_pos hg,if_pos hy,show (0-g)*(0-y)=g*y by rw [Int.zero_sub,Int.zero_sub,Int.neg_mul_neg]];exact Int.le_refl _
  ·rw [if_pos hg,if_neg hy]
   exact Int.mul_le_mul_of_nonneg_right (by omega) (by omega)
 ·by_cases hy:0-y>y
  ·rw [if_neg hg,if_pos hy]
   exact Int.mul_le_mul_of_nonneg_left (by omega) (by omega)
  ·rw [if_neg hg,if_neg hy];exact Int.le_refl _

theorem weak {c:Cs} (hv:Val c) {p y:List Int} (hy:Fe c 0 y):bound c p≤cost c y:=by
 have h1:sumN c.Edges.length (cnt c p)≤sumN c.Edges.length (fun i=>p[i]! * (y[c.Edges[i]!.A.toNat]! - y[c.Edges[i]!.B.toNat]!)):=sumN_le fun i hi=>by
  have:=hy.eg i hi (keep0 i)
  unfold cnt
  by_cases h:p[i]! > 0
  ·rw [if_pos h];exact Int.mul_le_mul_of_nonneg_left this.1 (by omega)
  ·rw [if_neg h];exact Int.mul_le_mul_of_nonpos_left (by omega) this.2
 rw [←weigh hv p (fun v=>y[v]!)] at h1
 have h2:sumN c.Sheets.length (fun v=>gv c p v*y[v]!)≤sumN c.Sheets.length (fun v=>off c (gv c p) v+c.Sheets[v]!.Weight*absI y[v]!):=sumN_le fun v hvs=>by
  have hm:=most_ok hv hvs
  have hb:=hy.box v hvs
  have ha:=absI_nonneg y[v]!
  have ham:absI y[v]! ≤ c.Sheets[v]!.Most:=absI_le.2 hb
  refine Int.le_trans (mul_abs _ _) ?_
  unfold off
  by_cases hg:absI (gv c p v)-c.Sheets[v]!.Weight>0
  ·rw [if_pos hg]
   have e:absI (gv c p v)*absI y[v]! = (absI (gv c p v)-c.Sheets[v]!.Weight)*absI y[v]! + c.Sheets[v]!.Weight*absI y[v]! := by rw [←Int.add_mul];congr 1;omega
   rw [e,Int.mul_comm c.Sheets[v]!.Most]
   have:=Int.mul_le_mul_of_nonneg_left ham (show 0≤absI (gv c p v)-c.Sheets[v]!.Weight by omega)
   omega
  ·rw [if_neg hg,Int.mul_zero,Int.zero_add]
   exact Int.mul_le_mul_of_nonneg_right (by omega) ha
 rw [sumN_add] at h2
 unfold bound cost
 omega

def wnt (s:Sh) (x:Int):Int×Int :=
 if s.Most=0 then (-1048576,1048576) else (if x = -s.Most then -1048576 else if x>0 then s.Weight else -s.Weight,if x=s.Most then 1048576 else if x<0 then -s.Weight else s.Weight)
theorem e97 {s:Sh} (h:0≤s.Weight∧s.Weight≤20∧0≤s.Most∧s.Most≤6) {x:Int} (hx : -s.Most≤x∧x≤s.Most):F97 s x=some ⟨(wnt s x).1,(wnt s x).2⟩:=by
 unfold F97 wnt
 by_cases h0:s.Most=0
 ·rw [if_pos (by simpa using h0),if_pos h0];rfl
 ·rw [if_neg (by simpa using h0),if_neg h0,w64_id (n:=0-s.Weight) (by omega) (by omega),w64_id (n:=0-s.Most) (by omega) (by omega)]
  have hz:∀n:Int,0-n = -n:=fun n=>by omega
  rw [hz,hz]
  by_cases h1:x>0
  ·rw [if_pos (decide_eq_true h1),Option.bind_some,outK_inr,if_neg (show ¬x = -s.Most by omega),if_pos h1]
   by_cases h2:x=s.Most
   ·rw [if_pos (by simpa using h2),Option.bind_some,outK_inr,if_neg (by simp;omega),if_pos h2]
   ·rw [if_neg (by simpa using h2),Option.bind_some,outK_inr,if_neg (by simp;omega),if_neg h2,if_neg (by omega)]
  ·rw [if_neg (by rw [decide_eq_false h1];simp),if_neg h1]
   by_cases h3:x<0
   ·rw [if_pos (decide_eq_true h3),Option.bind_some,outK_inr,if_neg (by simp;omega),Option.bind_some,outK_inr,if_neg (show ¬x=s.Most by omega),if_pos h3]
    by_cases h2:x = -s.Most
    ·rw [if_pos (by simpa using h2),if_pos h2]
    ·rw [if_neg (by simpa using h2),if_neg h2]
   ·rw [if_neg (by rw [decide_eq_false h3];simp),Option.bind_some,outK_inr,if_neg (by simp;omega),Option.bind_some,outK_inr,if_neg (by simp;omega),if_neg (by omega),if_neg (by omega),if_neg h3]

def SL (c:Cs) (x p:List Int):Prop:=∀i,i<c.Edges.length→(p[i]! > 0→x[c.Edges[i]!.A.toNat]! - x[c.Edges[i]!.B.toNat]! = lo c i)∧(p[i]! < 0→x[c.Edges[i]!.A.toNat]! - x[c.Edges[i]!.B.toNat]! = hi c i)
theorem absI_pos {n:Int} (h:0≤n):absI n=n:=if_neg (by omega)
theorem absI_npos {n:Int} (h:n≤0):absI n = -n:=by
 unfold absI
 split<;>omega
theorem tight_one {s:Sh} {x g:Int} (h:0≤s.Weight∧0≤s.Most) (hx : -s.Most≤x∧x≤s.Most) (hg:(wnt s x).1≤g∧g≤(wnt s x).2):g*x=s.Most*(if absI g-s.Weight>0 then absI g-s.Weight else 0)+s.Weight*absI x:=by
 unfold wnt at hg
 by_cases h0:s.Most=0
 ·have hx0:x=0:=by omega
  rw [hx0,h0,absI_pos (Int.le_refl _)];simp
 ·rw [if_neg h0] at hg
  simp only at hg
  by_cases h1:x>0
  ·rw [if_neg (show ¬x = -s.Most by omega),if_pos h1,if_neg (show ¬x<0 by omega)] at hg
   rw [absI_pos (show 0≤g by omega),absI_pos (show 0≤x by omega)]
   by_cases h2:x=s.Most
   ·rw [h2]
    by_cases h3:g-s.Weight>0
    ·rw [if_pos h3,Int.mul_sub,Int.mul_comm s.Weight,Int.mul_comm g];omega
    ·rw [if_neg h3,show g=s.Weight by omega];simp
   ·rw [if_neg h2] at hg
    rw [if_neg (by omega),show g=s.Weight by omega];simp
  ·rw [if_neg h1] at hg
   by_cases h3:x<0
   ·rw [if_neg (show ¬x=s.Most by omega),if_pos h3] at hg
    rw [absI_npos (show g≤0 by omega),absI_npos (show x≤0 by omega)]
    by_cases h2:x = -s.Most
    ·rw [h2,Int.neg_neg]
     by_cases h4 : -g-s.Weight>0
     ·rw [if_pos h4,Int.mul_sub,Int.mul_neg,Int.mul_neg,Int.mul_comm s.Weight,Int.mul_comm g];omega
     ·rw [if_neg h4,show g = -s.Weight by omega,Int.neg_mul_neg];simp
    ·rw [if_neg h2] at hg
     rw [if_neg (by omega),show g = -s.Weight by omega,Int.mul_neg,Int.neg_mul];simp
   ·have hx0:x=0:=by omega
    rw [if_neg (show ¬x = -s.Most by omega),if_neg (show ¬x=s.Most by omega),if_neg h3] at hg
    have ha:absI g≤s.Weight:=absI_le.2 hg
    rw [if_neg (by omega),hx0,absI_pos (Int.le_refl _)];simp
theorem strong {c:Cs} (hv:Val c) {p x:List Int} (hx:Fe c 0 x) (hs:SL c x p) (hg:∀v,v<c.Sheets.length→(wnt c.Sheets[v]! x[v]!).1≤gv c p v∧gv c p v≤(wnt c.Sheets[v]! x[v]!).2):bound c p=cost c x:=by
 have h1:sumN c.Edges.length (cnt c p)=sumN c.Edges.length (fun i=>p[i]! * (x[c.Edges[i]!.A.toNat]! - x[c.Edges[i]!.B.toNat]!)):=sumN_congr fun i hi=>by
  have:=hs i hi
  unfold cnt
  by_cases h:p[i]! > 0
  ·rw [if_pos h,this.1 h]
  ·rw [if_neg h]
   by_cases h0:p[i]! = 0
   ·rw [h0,Int.zero_mul,Int.zero_mul]
   ·rw [this.2 (by omega)]
 rw [←weigh hv p (fun v=>x[v]!)] at h1
 have h2:sumN c.Sheets.length (fun v=>gv c p v*x[v]!)=sumN c.Sheets.length (fun v=>off c (gv c p) v+c.Sheets[v]!.Weight*absI x[v]!):=sumN_congr fun v hvs=>by
  have hm:=most_ok hv hvs
  have hb:=hx.box v hvs
  have hw:=hg v hvs
  exact tight_one ⟨hm.2.2.1,hm.1⟩ hb hw
 rw [sumN_add] at h2
 unfold bound cost
 omega


structure Closed (c:Cs) (x p:List Int) (R:Nat→Bool):Prop where
 a:∀i,i<c.Edges.length→R c.Edges[i]!.A.toNat=true→R c.Edges[i]!.B.toNat=false→x[c.Edges[i]!.A.toNat]! - x[c.Edges[i]!.B.toNat]! ≠ lo c i∧p[i]! ≥ 0
 b:∀i,i<c.Edges.length→R c.Edges[i]!.B.toNat=true→R c.Edges[i]!.A.toNat=false→x[c.Edges[i]!.A.toNat]! - x[c.Edges[i]!.B.toNat]! ≠ hi c i∧p[i]! ≤ 0
def ind (R:Nat→Bool) (v:Nat):Int:=if R v=true then 1 else 0

theorem closed_sum {c:Cs} (hv:Val c) {x p:List Int} {R:Nat→Bool} (h:Closed c x p R):0≤sumN c.Sheets.length (fun v=>gv c p v*ind R v):=by
 rw [weigh hv]
 refine Int.le_trans (by rw [sumN_zero (n:=c.Edges.length) (f:=fun _=>0) fun _ _=>rfl];exact Int.le_refl _) (sumN_le (f:=fun _=>0) fun i hi=>?_)
 have ha:=h.a i hi
 have hb:=h.b i hi
 unfold ind
 cases eA:R c.Edges[i]!.A.toNat<;>cases eB:R c.Edges[i]!.B.toNat<;>simp only [eA,eB,if_true,if_false,Bool.false_eq_true]<;>first|omega|skip
 ·have:=(hb eB eA).2;omega
 ·have:=(ha eA eB).2;omega
theorem all_sum {c:Cs} (hv:Val c) (p:List Int):sumN c.Sheets.length (fun v=>gv c p v)=0:=by
 have h:=weigh hv p (fun _=>1)
 simp only [Int.mul_one,Int.sub_self,Int.mul_zero] at h
 rw [h]
 exact sumN_zero fun _ _=>rfl
def lowG (s:Sh) (x:Int):Int:=if x>0 then s.Weight else -s.Weight
def upG (s:Sh) (x:Int):Int:=if x<0 then -s.Weight else s.Weight
theorem lower_cost {c:Cs} (hv:Val c) {x p:List Int} {R:Nat→Bool} (hx:Opt c x) (h:Closed c x p R) (hm:∀v,v<c.Sheets.length→R v=true→x[v]! > -c.Sheets[v]!.Most):sumN c.Sheets.length (fun v=>lowG c.Sheets[v]! x[v]! * ind R v)≤0:=by
 have hs:=hv.sheets
 have hz:P5 c (mk5 c.Sheets.length fun v=>x[v]! - ind R v):=by
  refine ⟨mk5_len,⟨fun v hvs=>?_,fun i hi hk=>?_⟩,fun v hvs=>mk5_end hvs⟩
  ·rw [mk5_get hvs hs.2]
   have hb:=hx.1.fe.box v hvs
   have:=hm v hvs
   unfold ind
   split
   ·rename_i e;have:=this e;omega
   ·omega
  ·have hen:=ends hv hi
   have hb:=hx.1.fe.eg i hi hk
   have ha:=h.a i hi
   have hb2:=h.b i hi
   rw [mk5_get (by omega) hs.2,mk5_get (by omega) hs.2]
   unfold ind
   cases eA:R c.Edges[i]!.A.toNat<;>cases eB:R c.Edges[i]!.B.toNat<;>simp only [if_true,if_false,Bool.false_eq_true]<;>first|omega|skip
   ·have:=(hb2 eB eA).1;omega
   ·have:=(ha eA eB).1;omega
 have hc:=hx.2 _ hz
 have he:cost c (mk5 c.Sheets.length fun v=>x[v]! - ind R v)+sumN c.Sheets.length (fun v=>lowG c.Sheets[v]! x[v]! * ind R v)=cost c x:=by
  unfold cost
  rw [←sumN_add]
  refine sumN_congr fun v hvs=>?_
  rw [mk5_get hvs hs.2]
  unfold ind lowG
  cases R v with
  | false=>simp
  | true =>
   simp only [if_true,Int.mul_one]
   by_cases e:x[v]! > 0
   ·rw [if_pos e,absI_pos (show 0≤x[v]! - 1 by omega),absI_pos (show 0≤x[v]! by omega),Int.mul_sub];omega
   ·rw [if_neg e,absI_npos (show x[v]! - 1≤0 by omega),absI_npos (show x[v]! ≤ 0 by omega),show -(x[v]! - 1) = -x[v]! + 1 by omega,Int.mul_add];omega
 omega
theorem raise_cost {c:Cs} (hv:Val c) {x p:List Int} {R:Nat→Bool} (hx:Opt c x) (h:Closed c x p R) (hm:∀v,v<c.Sheets.length→R v=false→x[v]! < c.Sheets[v]!.Most):0≤sumN c.Sheets.length (fun v=>upG c.Sheets[v]! x[v]! * (1-ind R v)):=by
 have hs:=hv.sheets
 have hz:P5 c (mk5 c.Sheets.length fun v=>x[v]! + (1-ind R v)):=by
  refine ⟨mk5_len,⟨fun v hvs=>?_,fun i hi hk=>?_⟩,fun v hvs=>mk5_end hvs⟩
  ·rw [mk5_get hvs hs.2]
   have hb:=hx.1.fe.box v hvs
   have:=hm v hvs
   unfold ind
   cases e:R v with
   | true=>simp only [if_true];omega
   | false=>have:=this e;simp only [Bool.false_eq_true,if_false];omega
  ·have hen:=ends hv hi
   have hb:=hx.1.fe.eg i hi hk
   have ha:=h.a i hi
   have hb2:=h.b i hi
   rw [mk5_get (by omega) hs.2,mk5_get (by omega) hs.2]
   unfold ind
   cases eA:R c.Edges[i]!.A.toNat<;>cases eB:R c.Edges[i]!.B.toNat<;>simp only [if_true,if_false,Bool.false_eq_true]<;>first|omega|skip
   ·have:=(hb2 eB eA).1;omega
   ·have:=(ha eA eB).1;omega
 have hc:=hx.2 _ hz
 have he:cost c (mk5 c.Sheets.length fun v=>x[v]! + (1-ind R v))=cost c x+sumN c.Sheets.length (fun v=>upG c.Sheets[v]! x[v]! * (1-ind R v)):=by
  unfold cost
  rw [←sumN_add]
  refine sumN_congr fun v hvs=>?_
  rw [mk5_get hvs hs.2]
  unfold ind upG
  cases R v with
  | true=>simp
  | false =>
   simp only [Bool.false_eq_true,if_false,Int.sub_zero,Int.mul_one]
   by_cases e:x[v]! < 0
   ·rw [if_pos e,absI_npos (show x[v]! + 1≤0 by omega),absI_npos (show x[v]! ≤ 0 by omega),show -(x[v]! + 1) = -x[v]! - 1 by omega,Int.mul_sub];omega
   ·rw [if_neg e,absI_pos (show 0≤x[v]! + 1 by omega),absI_pos (show 0≤x[v]! by omega),Int.mul_add];omega
 omega

theorem too_little {c:Cs} (hv:Val c) {x p:List Int} {R:Nat→Bool} (hx:Opt c x) (h:Closed c x p R) {s:Nat} (hs:s<c.Sheets.length) (hR:R s=true) (hlt:gv c p s<(wnt c.Sheets[s]! x[s]!).1) (hle:∀v,v<c.Sheets.length→R v=true→v≠s→gv c p v≤(wnt c.Sheets[v]! x[v]!).1) (hb:∀v,v<c.Sheets.length → -1000≤gv c p v):False:=by
 have hlo:∀v,v<c.Sheets.length→R v=true→(wnt c.Sheets[v]! x[v]!).1=lowG c.Sheets[v]! x[v]! ∧ x[v]! > -c.Sheets[v]!.Most:=fun v hvs hr=>by
  have hbv:=hb v hvs
  have hbox:=hx.1.fe.box v hvs
  have hle':gv c p v≤(wnt c.Sheets[v]! x[v]!).1:=by
   by_cases e:v=s
   ·subst e;omega
   ·exact hle v hvs hr e
  unfold wnt at hle' ⊢
  by_cases h0:c.Sheets[v]!.Most=0
  ·rw [if_pos h0] at hle';simp only at hle';omega
  ·rw [if_neg h0] at hle' ⊢
   simp only at hle' ⊢
   by_cases h1:x[v]! = -c.Sheets[v]!.Most
   ·rw [if_pos h1] at hle';omega
   ·rw [if_neg h1];exact ⟨rfl,by omega⟩
 have h1:=closed_sum hv h
 have h2:=lower_cost hv hx h fun v hvs hr=>(hlo v hvs hr).2
 have h3:sumN c.Sheets.length (fun v=>gv c p v*ind R v)<sumN c.Sheets.length (fun v=>lowG c.Sheets[v]! x[v]! * ind R v):=by
  refine sumN_lt (fun v hvs=>?_) ⟨s,hs,?_⟩
  ·unfold ind
   cases e:R v with
   | false=>simp
   | true =>
    simp only [if_true,Int.mul_one]
    rw [←(hlo v hvs e).1]
    by_cases e2:v=s
    ·subst e2;omega
    ·exact hle v hvs e e2
  ·unfold ind
   rw [hR]
   simp only [if_true,Int.mul_one]
   rw [←(hlo s hs hR).1]
   exact hlt
 omega

theorem too_much {c:Cs} (hv:Val c) {x p:List Int} {R:Nat→Bool} (hx:Opt c x) (h:Closed c x p R) {s:Nat} (hs:s<c.Sheets.length) (hR:R s=false) (hlt:gv c p s>(wnt c.Sheets[s]! x[s]!).2) (hle:∀v,v<c.Sheets.length→R v=false→gv c p v≥(wnt c.Sheets[v]! x[v]!).2) (hb:∀v,v<c.Sheets.length→gv c p v≤1000):False:=by
 have hlo:∀v,v<c.Sheets.length→R v=false→(wnt c.Sheets[v]! x[v]!).2=upG c.Sheets[v]! x[v]! ∧ x[v]! < c.Sheets[v]!.Most:=fun v hvs hr=>by
  have hbv:=hb v hvs
  have hbox:=hx.1.fe.box v hvs
  have hle':=hle v hvs hr
  unfold wnt at hle' ⊢
  by_cases h0:c.Sheets[v]!.Most=0
  ·rw [if_pos h0] at hle';simp only at hle';omega
  ·rw [if_neg h0] at hle' ⊢
   simp only at hle' ⊢
   by_cases h1:x[v]! = c.Sheets[v]!.Most
   ·rw [if_pos h1] at hle';omega
   ·rw [if_neg h1];exact ⟨rfl,by omega⟩
 have h1:=closed_sum hv h
 have h2:=raise_cost hv hx h fun v hvs hr=>(hlo v hvs hr).2
 have h0:=all_sum hv p
 have h3:sumN c.Sheets.length (fun v=>upG c.Sheets[v]! x[v]! * (1-ind R v))<sumN c.Sheets.length (fun v=>gv c p v*(1-ind R v)):=by
  refine sumN_lt (fun v hvs=>?_) ⟨s,hs,?_⟩
  ·unfold ind
   cases e:R v with
   | true=>simp
   | false =>
    simp only [Bool.false_eq_true,if_false,Int.sub_zero,Int.mul_one]
    rw [←(hlo v hvs e).1]
    exact hle v hvs e
  ·unfold ind
   rw [hR]
   simp only [Bool.false_eq_true,if_false,Int.sub_zero,Int.mul_one]
   rw [←(hlo s hs hR).1]
   exact hlt
 have h4:sumN c.Sheets.length (fun v=>gv c p v*(1-ind R v))+sumN c.Sheets.length (fun v=>gv c p v*ind R v)=sumN c.Sheets.length (fun v=>gv c p v):=by
  rw [←sumN_add]
  exact sumN_congr fun v _=>by rw [←Int.mul_add,show 1-ind R v+ind R v=1 by omega,Int.mul_one]
 omega
end Go.Proofs.Ytallnifoeahpiaa
namespace Go.Proofs.Ytallnifoeahpiaa
open Go Go.Sx
set_option linter.all false


def Allow (c:Cs) (x p:List Int) (i v u:Nat):Prop :=
 (c.Edges[i]!.A=(v:Int)∧c.Edges[i]!.B=(u:Int)∧(x[c.Edges[i]!.A.toNat]! - x[c.Edges[i]!.B.toNat]! = lo c i∨p[i]! < 0)) ∨
 (c.Edges[i]!.B=(v:Int)∧c.Edges[i]!.A=(u:Int)∧(x[c.Edges[i]!.A.toNat]! - x[c.Edges[i]!.B.toNat]! = hi c i∨p[i]! > 0))

structure FailOk (c:Cs) (x:List Int) (thr:Nat→Int) (to:Nat) (g S p S':List Int):Prop where
 len:S'.length=5
 sub:∀v:Nat,S[v]! > 0→S'[v]! > 0
 me:S'[to]! > 0
 cl:∀v:Nat,S'[v]! > 0→¬S[v]! > 0→∀i u:Nat,i<c.Edges.length→Allow c x p i v u→S'[u]! > 0
 le:∀v:Nat,S'[v]! > 0→¬S[v]! > 0→v≠to→v<c.Sheets.length∧g[v]! ≤ thr v

structure SuccOk (c:Cs) (x:List Int) (thr:Nat→Int) (to:Nat) (g S p g' p':List Int) (k:Nat):Prop where
 kb:k<c.Sheets.length
 gq:g'=g.set k (g[k]! - 1)
 tq:g[k]! > thr k
 un:¬S[k]! > 0
 ne:k≠to
 len:p'.length=c.Edges.length
 ch:∀i,i<c.Edges.length→p'[i]! = p[i]! ∨ ((p'[i]! = p[i]! + 1∨p'[i]! = p[i]! - 1)∧¬S[c.Edges[i]!.A.toNat]! > 0∧¬S[c.Edges[i]!.B.toNat]! > 0)
 sl:SL c x p'
 gv:∀v,v<c.Sheets.length→gv c p' v=gv c p v+(if v=to then 1 else 0)-(if v=k then 1 else 0)
theorem optG_some {α:Type} [Inhabited α] {g:Bool} {a:α}:optG g (some a)=some (if g then a else default):=by cases g<;>rfl
theorem chain {α:Type} {b1 c3 c4:Bool} {so po:Option Int} {nd:Option Unit} {s pi:Int} {A B:Option α} (hn:b1=false→nd=some ()) (hso:b1=false→so=some s) (hpo:po=some pi) :
 ((optG (!b1) nd).bind fun _=>(optG (!b1) so).bind fun x19=>(optG ((!(cond b1 true (decide (x19>0))))&&c3) po).bind fun x20=>(optG ((!(cond (cond b1 true (decide (x19>0))) true (cond c3 (decide (x20≥0)) false)))&&c4) po).bind fun x21=>if (cond (cond (cond b1 true (decide (x19>0))) true (cond c3 (decide (x20≥0)) false)) true (cond c4 (decide (x21≤0)) false)) then A else B)=if (b1||decide (s>0)||(c3&&decide (pi≥0))||(c4&&decide (pi≤0))) then A else B:=by
 subst hpo
 cases b1 with
 | true=>cases c3<;>cases c4<;>rfl
 | false =>
  rw [hn rfl,hso rfl]
  simp only [Bool.not_false,optG_true,Option.bind_some,cond_false,Bool.false_or]
  cases decide (s>0)<;>cases c3<;>cases c4<;>simp only [Bool.not_true,Bool.not_false,Bool.and_true,Bool.and_false,Bool.true_and,Bool.false_and,cond_true,cond_false,Bool.or_false,Bool.false_or,Bool.true_or,optG_true,optG_false,Option.bind_some]<;>cases decide (pi≥0)<;>simp only [Bool.not_true,Bool.not_false,optG_true,optG_false,Option.bind_some,cond_true,cond_false,Bool.false_or,Bool.true_or]<;>cases decide (pi≤0)<;>rfl

def unseen (S:List Int):Int:=sumN 5 fun j=>if S[j]! > 0 then 0 else 1
theorem unseen_pos {S:List Int} {v:Nat} (hv:v<5) (h:¬S[v]! > 0):1≤unseen S:=by
 have:sumN 5 (fun j=>if j=v then 1 else 0)≤unseen S:=sumN_le fun j hj=>by
  by_cases e:j=v
  ·subst e;rw [if_pos rfl,if_neg h];exact Int.le_refl _
  ·rw [if_neg e];split<;>omega
 have h2:sumN 5 (fun j=>if j=v then 1 else 0)=1:=by
  have:v=0∨v=1∨v=2∨v=3∨v=4:=by omega
  rcases this with e|e|e|e|e<;>subst e<;>rfl
 omega
theorem unseen_le {S S':List Int} (h:∀v:Nat,S[v]! > 0→S'[v]! > 0):unseen S'≤unseen S:=sumN_le fun j hj=>by
 by_cases e:S[j]! > 0
 ·rw [if_pos e,if_pos (h j e)];exact Int.le_refl _
 ·rw [if_neg e];split<;>omega
theorem unseen_set {S:List Int} {v:Nat} (hv:v<5) (hl:S.length=5) (h:¬S[v]! > 0):unseen (S.set v 1)≤unseen S-1:=by
 have h1:sumN 5 (fun j=>(if (S.set v 1)[j]! > 0 then 0 else 1)+(if j=v then 1 else 0))≤unseen S:=sumN_le fun j hj=>by
  rw [get_set (by omega) (by omega)]
  by_cases e:v=j
  ·subst e;rw [if_pos rfl,if_pos (by omega),if_pos rfl,if_neg h];omega
  ·rw [if_neg e,if_neg (fun h:j=v=>e h.symm)];split<;>omega
 rw [sumN_add] at h1
 have h2:sumN 5 (fun j=>if j=v then 1 else 0)=1:=by
  have:v=0∨v=1∨v=2∨v=3∨v=4:=by omega
  rcases this with e|e|e|e|e<;>subst e<;>rfl
 unfold unseen at h1 ⊢
 omega
theorem two_if {P Q:Prop} [Decidable P] [Decidable Q] (y a:Int):(if P then y else 0)-(if Q then y else 0)=((if P then a else 0)-(if Q then a else 0))+((if P then y-a else 0)-(if Q then y-a else 0)):=by
 by_cases hP:P<;>by_cases hQ:Q
 ·rw [if_pos hP,if_pos hQ,if_pos hP,if_pos hQ,if_pos hP,if_pos hQ];omega
 ·rw [if_pos hP,if_neg hQ,if_pos hP,if_neg hQ,if_pos hP,if_neg hQ];omega
 ·rw [if_neg hP,if_pos hQ,if_neg hP,if_pos hQ,if_neg hP,if_pos hQ];omega
 ·rw [if_neg hP,if_neg hQ,if_neg hP,if_neg hQ,if_neg hP,if_neg hQ];omega

theorem gv_set {c:Cs} (hv:Val c) {p:List Int} (hl:p.length=c.Edges.length) {i:Nat} (hi:i<c.Edges.length) (y:Int) {v:Nat} (hvs:v<c.Sheets.length):gv c (p.set i y) v=gv c p v+((if c.Edges[i]!.A=(v:Int) then y-p[i]! else 0)-(if c.Edges[i]!.B=(v:Int) then y-p[i]! else 0)):=by
 generalize hD:((if c.Edges[i]!.A=(v:Int) then y-p[i]! else 0)-(if c.Edges[i]!.B=(v:Int) then y-p[i]! else 0))=D
 have key:∀e,e≤c.Edges.length→gvp c (p.set i y) e v=gvp c p e v+(if i<e then D else 0):=by
  intro e
  induction e with
  | zero=>intro _;simp [gvp,sumN]
  | succ e ih =>
   intro he
   have h1:=ih (by omega)
   show gvp c (p.set i y) e v+((if c.Edges[e]!.A=(v:Int) then (p.set i y)[e]! else 0)-(if c.Edges[e]!.B=(v:Int) then (p.set i y)[e]! else 0))=gvp c p e v+((if c.Edges[e]!.A=(v:Int) then p[e]! else 0)-(if c.Edges[e]!.B=(v:Int) then p[e]! else 0))+_
   rw [h1,get_set (by omega) (by omega)]
   by_cases e2:i=e
   ·subst e2
    rw [if_neg (show ¬i<i by omega),if_pos (rfl:i=i),if_pos (show i<i+1 by omega),two_if y p[i]!,hD]
    omega
   ·rw [if_neg e2]
    by_cases e3:i<e
    ·rw [if_pos e3,if_pos (show i<e+1 by omega)];omega
    ·rw [if_neg e3,if_neg (show ¬i<e+1 by omega)];omega
 have:=key c.Edges.length (Nat.le_refl _)
 rw [if_pos hi] at this
 exact this
end Go.Proofs.Ytallnifoeahpiaa
namespace Go.Proofs.Ytallnifoeahpiaa
open Go Go.Sx
set_option linter.all false

abbrev Res:=Bool×(List Int)×(List Int)×(List Int)
section
variable {c:Cs} {x:List Int} {thr:Nat→Int} {FF:Nat→Int→List Int→List Int→List Int→Option Res} {LL:Nat→Int→Nat→(Int×(List Int)×(List Int)×(List Int))→Option (Res⊕((List Int)×(List Int)×(List Int)))} {G:Int→List Int→Option Bool}

structure Mid5 (c:Cs) (x:List Int) (thr:Nat→Int) (to:Nat) (g S p:List Int) (j:Nat) (S1:List Int):Prop where
 len:S1.length=5
 sub:∀v:Nat,S[v]! > 0→S1[v]! > 0
 me:S1[to]! > 0
 cl:∀v:Nat,S1[v]! > 0→¬S[v]! > 0→v≠to→∀i u:Nat,i<c.Edges.length→Allow c x p i v u→S1[u]! > 0
 le:∀v:Nat,S1[v]! > 0→¬S[v]! > 0→v≠to→v<c.Sheets.length∧g[v]! ≤ thr v
 dn:∀e u:Nat,e<j→Allow c x p e to u→S1[u]! > 0
def Good (c:Cs) (x g p:List Int):Prop:=g.length=5∧p.length=c.Edges.length∧SL c x p∧(∀v:Nat,v<5 → -1000000≤g[v]! ∧ g[v]! ≤ 1000000)∧∀i,i<c.Edges.length → -1000000≤p[i]! ∧ p[i]! ≤ 1000000
def Dfs (c:Cs) (x:List Int) (thr:Nat→Int) (to:Nat) (g S p:List Int) (r:Option Res):Prop :=
 (∃S',r=some (false,g,S',p)∧FailOk c x thr to g S p S')∨∃g' S' p' k,r=some (true,g',S',p')∧S'.length=5∧SuccOk c x thr to g S p g' p' k
theorem Mid5.next {to:Nat} {g S p S1:List Int} {j:Nat} (h:Mid5 c x thr to g S p j S1) (hno:∀u,Allow c x p j to u→S1[u]! > 0):Mid5 c x thr to g S p (j+1) S1 :=
 ⟨h.len,h.sub,h.me,h.cl,h.le,fun e u he ha=>by
  by_cases e2:e=j
  ·subst e2;exact hno u ha
  ·exact h.dn e u (by omega) ha⟩

theorem step_loop (hv:Val c) (hx:P5 c x) (hG:∀(k:Nat) (g:List Int),k<c.Sheets.length→g.length=5→G (k:Int) g=some (decide (g[k]! > thr k)))
 (hLL:∀(n:Nat) (to_:Int) (n5:Nat) (c4:Int×(List Int)×(List Int)×(List Int)),LL n to_ (n5+1) c4=if (decide (c4.1<(c.Edges.length:Int))) then ((idx c.Edges c4.1).bind fun x7=>(need (0≤x7.A∧x7.A<5)).bind fun x8=>(x[0+x7.A.toNat*1]?).bind fun x9=>(need (0≤x7.B∧x7.B<5)).bind fun x10=>(x[0+x7.B.toNat*1]?).bind fun x11=>(if (x7.A != to_) then (some (.inr (x7.A,(-1)))) else (some (.inr (x7.B,1)))).bind fun o12=>outK o12 (fun (ro12:Res)=>some (.inl ro12)) (fun (so12:Int×Int)=>(need (0≤c4.1∧c4.1<8)).bind fun x14=>((wl c)[0+c4.1.toNat*2]?).bind fun x15=>(need (0≤c4.1∧c4.1<8)).bind fun x16=>((wl c)[0+c4.1.toNat*2+1]?).bind fun x17=>(optG (!(cond (x7.A != to_) (x7.B != to_) false)) (need (0≤so12.1∧so12.1<5))).bind fun x18=>(optG (!(cond (x7.A != to_) (x7.B != to_) false)) (c4.2.2.1[0+so12.1.toNat*1]?)).bind fun x19=>(optG ((!(cond (cond (x7.A != to_) (x7.B != to_) false) true (decide (x19>0))))&&(cond (decide (so12.2>0)) (!((w64 (x9-x11))==x15)) false)) (idx c4.2.2.2 c4.1)).bind fun x20=>(optG ((!(cond (cond (cond (x7.A != to_) (x7.B != to_) false) true (decide (x19>0))) true (cond (cond (decide (so12.2>0)) (!((w64 (x9-x11))==x15)) false) (decide (x20≥0)) false)))&&(cond (decide (so12.2<0)) (!((w64 (x9-x11))==x17)) false)) (idx c4.2.2.2 c4.1)).bind fun x21=>if (cond (cond (cond (cond (x7.A != to_) (x7.B != to_) false) true (decide (x19>0))) true (cond (cond (decide (so12.2>0)) (!((w64 (x9-x11))==x15)) false) (decide (x20≥0)) false)) true (cond (cond (decide (so12.2<0)) (!((w64 (x9-x11))==x17)) false) (decide (x21≤0)) false)) then (LL n to_ n5 ((w64 (c4.1+1)),c4.2.1,c4.2.2.1,c4.2.2.2)) else ((G so12.1 c4.2.1).bind fun x23=>if x23 then ((need (0≤so12.1∧so12.1<5)).bind fun x25=>(c4.2.1[0+so12.1.toNat*1]?).bind fun x26=>(need (0≤so12.1∧so12.1<5)).bind fun x27=>(c4.2.1[0+so12.1.toNat*1]?).bind fun x28=>(idx c4.2.2.2 c4.1).bind fun x29=>(idx c4.2.2.2 c4.1).bind fun x30=>some (.inl (true,(c4.2.1.set (0+so12.1.toNat*1) (w64 (x26-1))),c4.2.2.1,(c4.2.2.2.set c4.1.toNat (w64 (x29+so12.2)))))) else ((FF n so12.1 c4.2.1 c4.2.2.1 c4.2.2.2).bind fun x31=>if (!x31.1) then (LL n to_ n5 ((w64 (c4.1+1)),x31.2.1,x31.2.2.1,x31.2.2.2)) else ((idx x31.2.2.2 c4.1).bind fun x33=>(idx x31.2.2.2 c4.1).bind fun x34=>some (.inl (true,x31.2.1,x31.2.2.1,(x31.2.2.2.set c4.1.toNat (w64 (x33+so12.2)))))))))) else (some (.inr (c4.2.1,c4.2.2.1,c4.2.2.2))))
 {n to:Nat} (hto:to<c.Sheets.length) {g S p:List Int} (hgood:Good c x g p) (hS5:S.length=5) (hSto:¬S[to]! > 0) {N:Int}
 (ih:∀(to':Nat) (S1:List Int),to'<c.Sheets.length→S1.length=5→¬S1[to']! > 0→unseen S1≤N→Dfs c x thr to' g S1 p (FF n (to':Int) g S1 p)) :
 ∀(r i m:Nat) (S1:List Int),r+i=c.Edges.length→r<m→Mid5 c x thr to g S p i S1→unseen S1≤N →
  (∃S',LL n (to:Int) m ((i:Int),g,S1,p)=some (.inr (g,S',p))∧FailOk c x thr to g S p S')∨∃g' S' p' k,LL n (to:Int) m ((i:Int),g,S1,p)=some (.inl (true,g',S',p'))∧S'.length=5∧SuccOk c x thr to g S p g' p' k:=by
 have hs:=hv.sheets
 have hm:=hv.edges
 have hx5:=hx.len
 obtain ⟨hg5,hpl,hsl,hgb,hpb⟩:=hgood
 intro r
 induction r with
 | zero =>
  intro i m S1 hr hmm hM hu
  obtain ⟨m,rfl⟩:∃q,m=q+1:=⟨m-1,by omega⟩
  refine .inl ⟨S1,?_,hM.len,hM.sub,hM.me,fun v h1 h2 e u he ha=>?_,hM.le⟩
  ·rw [hLL,if_neg (by simp;omega)]
  ·by_cases ev:v=to
   ·subst ev;exact hM.dn e u (by omega) ha
   ·exact hM.cl v h1 h2 ev e u he ha
 | succ r ihr =>
  intro i m S1 hr hmm hM hu
  obtain ⟨m,rfl⟩:∃q,m=q+1:=⟨m-1,by omega⟩
  have hi:i<c.Edges.length:=by omega
  have hen:=ends hv hi
  have hne:=(hv.eg _ (mem_get hi)).2.2.2.2.1
  have hw:=(wl_inv hv.edges).2 i hi
  have hS1:=hM.len
  have hxa:=near_p5 hv hx c.Edges[i]!.A.toNat (by omega)
  have hxb:=near_p5 hv hx c.Edges[i]!.B.toNat (by omega)
  have hwi:w64 ((i:Int)+1)=((i+1:Nat):Int):=by rw [w64_id (by omega) (by omega)];omega
  have hpi:=hpb i hi
  have hskip:(∀u,Allow c x p i to u→S1[u]! > 0)→(∃S',LL n (to:Int) m (((i+1:Nat):Int),g,S1,p)=some (.inr (g,S',p))∧FailOk c x thr to g S p S')∨∃g' S' p' k,LL n (to:Int) m (((i+1:Nat):Int),g,S1,p)=some (.inl (true,g',S',p'))∧S'.length=5∧SuccOk c x thr to g S p g' p' k:=fun hno=>ihr (i+1) m S1 (by omega) (by omega) (hM.next hno) hu
  rw [hLL]
  dsimp only
  rw [if_pos (by simp;omega),idx_nat hi,Option.bind_some,need_true (by omega),Option.bind_some,Nat.zero_add,Nat.mul_one,get_some (l:=x) (by omega),Option.bind_some,need_true (by omega),Option.bind_some,Nat.zero_add,Nat.mul_one,get_some (l:=x) (by omega),Option.bind_some]

  have go:∀(f:Nat) (d:Int),f<c.Sheets.length→f≠to→(d=1∨d = -1)→((c.Edges[i]!.A=(to:Int)∧c.Edges[i]!.B=(f:Int)∧d=1)∨(c.Edges[i]!.B=(to:Int)∧c.Edges[i]!.A=(f:Int)∧d = -1))→Allow c x p i to f→¬S1[f]! > 0 →
   ∀R,R=((G (f:Int) g).bind fun x23=>if x23 then ((need (0≤(f:Int)∧(f:Int)<5)).bind fun x25=>(g[0+(f:Int).toNat*1]?).bind fun x26=>(need (0≤(f:Int)∧(f:Int)<5)).bind fun x27=>(g[0+(f:Int).toNat*1]?).bind fun x28=>(idx p (i:Int)).bind fun x29=>(idx p (i:Int)).bind fun x30=>some (.inl (true,(g.set (0+(f:Int).toNat*1) (w64 (x26-1))),S1,(p.set (i:Int).toNat (w64 (x29+d)))))) else ((FF n (f:Int) g S1 p).bind fun x31=>if (!x31.1) then (LL n (to:Int) m ((w64 ((i:Int)+1)),x31.2.1,x31.2.2.1,x31.2.2.2)) else ((idx x31.2.2.2 (i:Int)).bind fun x33=>(idx x31.2.2.2 (i:Int)).bind fun x34=>some (.inl (true,x31.2.1,x31.2.2.1,(x31.2.2.2.set (i:Int).toNat (w64 (x33+d)))))))) →
   (∃S',R=some (.inr (g,S',p))∧FailOk c x thr to g S p S')∨∃g' S' p' k,R=some (.inl (true,g',S',p'))∧S'.length=5∧SuccOk c x thr to g S p g' p' k:=by
   intro f d hf hfto hd hkind hallow hunS R hR
   subst hR
   have hunS0:¬S[f]! > 0:=fun h=>hunS (hM.sub f h)
   have hgf:=hgb f (by omega)

   have hsl':∀q:List Int,SL c x q→q.length=c.Edges.length→q[i]! = p[i]! → SL c x (q.set i (p[i]! + d)):=fun q hq hql hqi e he=>by
    have h1:=hq e he
    rw [get_set (by omega) (by omega)]
    by_cases e2:i=e
    ·subst e2
     rw [if_pos rfl]
     rw [hqi] at h1
     rcases hkind with ⟨ka,kb,kd⟩|⟨ka,kb,kd⟩
     ·rcases hallow with ⟨_,_,hl|hl⟩|⟨hb,_,_⟩
      ·exact ⟨fun _=>hl,fun h=>h1.2 (by omega)⟩
      ·exact ⟨fun h=>by omega,fun h=>h1.2 (by omega)⟩
      ·omega
     ·rcases hallow with ⟨hb,_,_⟩|⟨_,_,hl|hl⟩
      ·omega
      ·exact ⟨fun h=>h1.1 (by omega),fun _=>hl⟩
      ·exact ⟨fun h=>h1.1 (by omega),fun h=>by omega⟩
    ·rw [if_neg e2];exact h1
   have hgv':∀q:List Int,q.length=c.Edges.length→q[i]! = p[i]! → ∀v,v<c.Sheets.length→gv c (q.set i (p[i]! + d)) v=gv c q v+(if v=to then 1 else 0)-(if v=f then 1 else 0):=fun q hql hqi v hvs=>by
    rw [gv_set hv hql hi _ hvs,hqi]
    rcases hkind with ⟨ka,kb,kd⟩|⟨ka,kb,kd⟩
    ·rw [ka,kb,kd]
     by_cases a:v=to
     ·subst a;rw [if_pos rfl,if_pos rfl,if_neg (by omega),if_neg (by omega)];omega
     ·rw [if_neg (show ¬(to:Int)=(v:Int) by omega),if_neg a]
      by_cases b:v=f
      ·subst b;rw [if_pos rfl,if_pos rfl];omega
      ·rw [if_neg (show ¬(f:Int)=(v:Int) by omega),if_neg b];omega
    ·rw [ka,kb,kd]
     by_cases a:v=to
     ·subst a;rw [if_neg (show ¬(f:Int)=(v:Int) by omega),if_pos rfl,if_pos rfl,if_neg (by omega)];omega
     ·rw [if_neg (show ¬(to:Int)=(v:Int) by omega),if_neg a]
      by_cases b:v=f
      ·subst b;rw [if_pos rfl,if_pos rfl];omega
      ·rw [if_neg (show ¬(f:Int)=(v:Int) by omega),if_neg b];omega
   have hends:¬S[c.Edges[i]!.A.toNat]! > 0∧¬S[c.Edges[i]!.B.toNat]! > 0:=by
    rcases hkind with ⟨ka,kb,_⟩|⟨ka,kb,_⟩<;>rw [ka,kb,Int.toNat_natCast,Int.toNat_natCast]
    ·exact ⟨hSto,hunS0⟩
    ·exact ⟨hunS0,hSto⟩
   rw [hG f g hf hg5,Option.bind_some]
   by_cases hgive:g[f]! > thr f
   ·rw [decide_eq_true hgive,if_pos rfl]
    rw [need_true (by omega),Option.bind_some,Int.toNat_natCast,Int.toNat_natCast,Nat.zero_add,Nat.mul_one,get_some (by omega),Option.bind_some,Option.bind_some,Option.bind_some,idx_nat (by omega),Option.bind_some,Option.bind_some,w64_id (n:=g[f]! - 1) (by omega) (by omega),w64_id (n:=p[i]! + d) (by omega) (by omega)]
    refine .inr ⟨_,S1,_,f,rfl,hS1,hf,rfl,hgive,hunS0,hfto,by simp [hpl],fun e he=>?_,hsl' p hsl hpl rfl,hgv' p hpl rfl⟩
    rw [get_set (by omega) (by omega)]
    by_cases e2:i=e
    ·subst e2;rw [if_pos rfl];exact .inr ⟨by omega,hends⟩
    ·rw [if_neg e2];exact .inl rfl
   ·rw [decide_eq_false hgive,if_neg (by simp)]
    rcases ih f S1 hf hS1 hunS hu with ⟨S',h1,h2⟩|⟨g',S',p',k,h1,h2,h3⟩
    ·rw [h1,Option.bind_some]
     simp only [Bool.not_false,if_true]
     rw [hwi]
     refine ihr (i+1) m S' (by omega) (by omega) ⟨h2.len,fun v hvv=>h2.sub v (hM.sub v hvv),h2.sub to hM.me,fun v a b hvt e u he ha=>?_,fun v a b hvt=>?_,fun e u he ha=>?_⟩ (by have:=unseen_le (S:=S1) (S':=S') h2.sub;omega)
     ·by_cases hs1:S1[v]! > 0
      ·exact h2.sub u (hM.cl v hs1 b hvt e u he ha)
      ·exact h2.cl v a hs1 e u he ha
     ·by_cases hs1:S1[v]! > 0
      ·exact hM.le v hs1 b hvt
      ·by_cases hvf:v=f
       ·subst hvf;exact ⟨hf,by omega⟩
       ·exact h2.le v a hs1 hvf
     ·by_cases e2:e=i
      ·subst e2

       have:u=f:=by
        rcases hkind with ⟨ka,kb,_⟩|⟨ka,kb,_⟩<;>rcases ha with ⟨q1,q2,_⟩|⟨q1,q2,_⟩<;>omega
       subst this
       exact h2.me
      ·exact h2.sub u (hM.dn e u (by omega) ha)
    ·rw [h1,Option.bind_some]
     simp only [Bool.not_true,Bool.false_eq_true,if_false]
     have hpi':p'[i]! = p[i]! := by
      rcases h3.ch i hi with h|⟨_,ha,hb⟩
      ·exact h
      ·exfalso
       rcases hkind with ⟨ka,_,_⟩|⟨kb,_,_⟩
       ·rw [ka,Int.toNat_natCast] at ha;exact ha hM.me
       ·rw [kb,Int.toNat_natCast] at hb;exact hb hM.me
     have hp'l:=h3.len
     rw [idx_nat (by omega),Option.bind_some,Option.bind_some,hpi',w64_id (n:=p[i]! + d) (by omega) (by omega),Int.toNat_natCast]
     have hkun:¬S[k]! > 0:=fun h=>h3.un (hM.sub k h)
     have hkto:k≠to:=fun e=>by subst e;exact h3.un hM.me
     refine .inr ⟨g',S',_,k,rfl,h2,h3.kb,h3.gq,h3.tq,hkun,hkto,by simp [hp'l],fun e he=>?_,hsl' p' h3.sl hp'l hpi',fun v hvs=>?_⟩
     ·rw [get_set (by omega) (by omega)]
      by_cases e2:i=e
      ·subst e2;rw [if_pos rfl];exact .inr ⟨by omega,hends⟩
      ·rw [if_neg e2]
       rcases h3.ch e he with h|⟨h,ha,hb⟩
       ·exact .inl h
       ·exact .inr ⟨h,fun hh=>ha (hM.sub _ hh),fun hh=>hb (hM.sub _ hh)⟩
     ·rw [hgv' p' hp'l hpi' v hvs,h3.gv v hvs]
      by_cases a:v=to
      ·subst a;rw [if_pos rfl,if_neg (fun h=>hfto h.symm),if_neg (fun h=>hkto h.symm)];omega
      ·rw [if_neg a]
       by_cases b:v=f
       ·rw [if_pos b];omega
       ·rw [if_neg b];omega
  have hdiff:w64 (x[c.Edges[i]!.A.toNat]! - x[c.Edges[i]!.B.toNat]!)=x[c.Edges[i]!.A.toNat]! - x[c.Edges[i]!.B.toNat]! := w64_id (by omega) (by omega)
  have hidx:idx p (i:Int)=some p[i]! := idx_nat (by omega)
  by_cases hA:c.Edges[i]!.A=(to:Int)
  ·have hB:c.Edges[i]!.B≠(to:Int):=fun h=>hne (hA.trans h.symm)
   obtain ⟨f,hf⟩:∃f:Nat,c.Edges[i]!.B=(f:Int):=⟨c.Edges[i]!.B.toNat,by omega⟩
   have hfto:f≠to:=fun e=>hB (by rw [hf,e])
   have honly:∀u,Allow c x p i to u→u=f∧(x[c.Edges[i]!.A.toNat]! - x[c.Edges[i]!.B.toNat]! = lo c i∨p[i]! < 0):=fun u ha=>by
    rcases ha with ⟨q1,q2,q3⟩|⟨q1,q2,q3⟩
    ·exact ⟨by omega,q3⟩
    ·exact absurd q1 hB
   have hb1:(cond (c.Edges[i]!.A != (to:Int)) (c.Edges[i]!.B != (to:Int)) false)=false:=by rw [show (c.Edges[i]!.A != (to:Int))=false by simpa using hA];rfl
   rw [if_neg (show ¬(c.Edges[i]!.A != (to:Int))=true by simpa using hA),Option.bind_some,outK_inr,need_true (by omega),Option.bind_some,Int.toNat_natCast,hw.1,Option.bind_some,Option.bind_some,hw.2,Option.bind_some]
   rw [chain (s:=S1[f]!) (pi:=p[i]!) (fun _=>need_true (by omega)) (fun _=>by rw [hf,Int.toNat_natCast,Nat.zero_add,Nat.mul_one,get_some (by omega)]) hidx,hb1,hdiff]
   rw [show (cond (decide ((1:Int)>0)) (!(x[c.Edges[i]!.A.toNat]! - x[c.Edges[i]!.B.toNat]! == lo c i)) false) = !(x[c.Edges[i]!.A.toNat]! - x[c.Edges[i]!.B.toNat]! == lo c i) from rfl,show (cond (decide ((1:Int)<0)) (!(x[c.Edges[i]!.A.toNat]! - x[c.Edges[i]!.B.toNat]! == Ytallnifoeahpiaa.hi c i)) false)=false from rfl]
   rw [Bool.false_or,Bool.false_and,Bool.or_false]
   by_cases h1:S1[f]! > 0
   ·rw [decide_eq_true h1,Bool.true_or,if_pos rfl,hwi]
    exact hskip fun u ha=>by rw [(honly u ha).1];exact h1
   ·rw [decide_eq_false h1,Bool.false_or]
    by_cases h2:x[c.Edges[i]!.A.toNat]! - x[c.Edges[i]!.B.toNat]! ≠ lo c i∧p[i]! ≥ 0
    ·rw [if_pos (by rw [show (x[c.Edges[i]!.A.toNat]! - x[c.Edges[i]!.B.toNat]! == lo c i)=false by simpa using h2.1,decide_eq_true h2.2];rfl),hwi]
     exact hskip fun u ha=>by have:=(honly u ha).2;omega
    ·rw [if_neg (by
      intro e
      rw [Bool.and_eq_true] at e
      exact h2 ⟨by simpa using e.1,by simpa using e.2⟩)]
     refine go f 1 (by omega) hfto (.inl rfl) (.inl ⟨hA,hf,rfl⟩) (.inl ⟨hA,hf,by omega⟩) h1 _ ?_
     rw [hf]
     rfl
  ·obtain ⟨f,hf⟩:∃f:Nat,c.Edges[i]!.A=(f:Int):=⟨c.Edges[i]!.A.toNat,by omega⟩
   have hfto:f≠to:=fun e=>hA (by rw [hf,e])
   rw [if_pos (show (c.Edges[i]!.A != (to:Int))=true by simpa using hA),Option.bind_some,outK_inr,need_true (by omega),Option.bind_some,Int.toNat_natCast,hw.1,Option.bind_some,Option.bind_some,hw.2,Option.bind_some]
   rw [chain (s:=S1[f]!) (pi:=p[i]!) (fun _=>need_true (by omega)) (fun _=>by rw [hf,Int.toNat_natCast,Nat.zero_add,Nat.mul_one,get_some (by omega)]) hidx,hdiff]
   rw [show (cond (decide ((-1:Int)>0)) (!(x[c.Edges[i]!.A.toNat]! - x[c.Edges[i]!.B.toNat]! == lo c i)) false)=false from rfl,show (cond (decide ((-1:Int)<0)) (!(x[c.Edges[i]!.A.toNat]! - x[c.Edges[i]!.B.toNat]! == Ytallnifoeahpiaa.hi c i)) false) = !(x[c.Edges[i]!.A.toNat]! - x[c.Edges[i]!.B.toNat]! == Ytallnifoeahpiaa.hi c i) from rfl,show (c.Edges[i]!.A != (to:Int))=true by simpa using hA,cond_true,Bool.false_and,Bool.or_false]
   by_cases hB:c.Edges[i]!.B=(to:Int)
   ·have honly:∀u,Allow c x p i to u→u=f∧(x[c.Edges[i]!.A.toNat]! - x[c.Edges[i]!.B.toNat]! = Ytallnifoeahpiaa.hi c i∨p[i]! > 0):=fun u ha=>by
     rcases ha with ⟨q1,q2,q3⟩|⟨q1,q2,q3⟩
     ·exact absurd q1 hA
     ·exact ⟨by omega,q3⟩
    rw [show (c.Edges[i]!.B != (to:Int))=false by simpa using hB,Bool.false_or]
    by_cases h1:S1[f]! > 0
    ·rw [decide_eq_true h1,Bool.true_or,if_pos rfl,hwi]
     exact hskip fun u ha=>by rw [(honly u ha).1];exact h1
    ·rw [decide_eq_false h1,Bool.false_or]
     by_cases h2:x[c.Edges[i]!.A.toNat]! - x[c.Edges[i]!.B.toNat]! ≠ Ytallnifoeahpiaa.hi c i∧p[i]! ≤ 0
     ·rw [if_pos (by rw [show (x[c.Edges[i]!.A.toNat]! - x[c.Edges[i]!.B.toNat]! == Ytallnifoeahpiaa.hi c i)=false by simpa using h2.1,decide_eq_true h2.2];rfl),hwi]
      exact hskip fun u ha=>by have:=(honly u ha).2;omega
     ·rw [if_neg (by
       intro e
       rw [Bool.and_eq_true] at e
       exact h2 ⟨by simpa using e.1,by simpa using e.2⟩)]
      refine go f (-1) (by omega) hfto (.inr rfl) (.inr ⟨hB,hf,rfl⟩) (.inr ⟨hB,hf,by omega⟩) h1 _ ?_
      rw [hf]
      rfl
   ·rw [show (c.Edges[i]!.B != (to:Int))=true by simpa using hB,Bool.true_or,Bool.true_or,if_pos rfl,hwi]
    exact hskip fun u ha=>by
     rcases ha with ⟨q1,_,_⟩|⟨q1,_,_⟩
     ·exact absurd q1 hA
     ·exact absurd q1 hB
theorem dfs (hv:Val c) (hx:P5 c x) (hG:∀(k:Nat) (g:List Int),k<c.Sheets.length→g.length=5→G (k:Int) g=some (decide (g[k]! > thr k)))
 (hFF:∀(n:Nat) (to_:Int) (g s p:List Int),FF (n+1) to_ g s p=(need (0≤to_∧to_<5)).bind fun x1=>(s[0+to_.toNat*1]?).bind fun x2=>(LL n to_ (n+1) (0,g,(s.set (0+to_.toNat*1) 1),p)).bind fun o3=>outK o3 (fun (ro3:Res)=>some ro3) (fun (so3:(List Int)×(List Int)×(List Int))=>some (false,so3.1,so3.2.1,so3.2.2)))
 (hstep:∀{n to:Nat} (_:to<c.Sheets.length) {g S p:List Int} (_:Good c x g p) (_:S.length=5) (_:¬S[to]! > 0) {N:Int}
  (_:∀(to':Nat) (S1:List Int),to'<c.Sheets.length→S1.length=5→¬S1[to']! > 0→unseen S1≤N→Dfs c x thr to' g S1 p (FF n (to':Int) g S1 p)),
  ∀(r i m:Nat) (S1:List Int),r+i=c.Edges.length→r<m→Mid5 c x thr to g S p i S1→unseen S1≤N →
   (∃S',LL n (to:Int) m ((i:Int),g,S1,p)=some (.inr (g,S',p))∧FailOk c x thr to g S p S')∨∃g' S' p' k,LL n (to:Int) m ((i:Int),g,S1,p)=some (.inl (true,g',S',p'))∧S'.length=5∧SuccOk c x thr to g S p g' p' k)
 {g p:List Int} (hgood:Good c x g p):∀(N n to:Nat) (S:List Int),to<c.Sheets.length→S.length=5→¬S[to]! > 0→unseen S≤N→20+N≤n→Dfs c x thr to g S p (FF n (to:Int) g S p):=by
 have hs:=hv.sheets
 have hm:=hv.edges
 intro N
 induction N with
 | zero =>
  intro n to S hto hS hun hu hn
  have:=unseen_pos (by omega:to<5) hun
  omega
 | succ N ih =>
  intro n to S hto hS hun hu hn
  obtain ⟨n,rfl⟩:∃q,n=q+1:=⟨n-1,by omega⟩
  have hu2:=unseen_set (by omega:to<5) hS hun
  have hme:(S.set to 1)[to]! > 0:=by rw [get_set (by omega) (by omega),if_pos rfl];omega
  have hsub:∀v:Nat,S[v]! > 0→(S.set to 1)[v]! > 0:=fun v h=>by
   by_cases h5:v<5
   ·rw [get_set (by omega) (by omega)]
    by_cases e:to=v
    ·rw [if_pos e];omega
    ·rw [if_neg e];exact h
   ·rw [get_end (l:=S) (by omega)] at h;omega
  have hback:∀v:Nat,(S.set to 1)[v]! > 0→¬S[v]! > 0→v≠to→False:=fun v h1 h2 h3=>by
   by_cases h5:v<5
   ·rw [get_set (by omega) (by omega),if_neg (fun e:to=v=>h3 e.symm)] at h1;exact h2 h1
   ·rw [get_end (l:=S.set to 1) (by simp;omega)] at h1;omega
  have h:=hstep (n:=n) hto hgood hS hun (N:=(N:Int)) (fun to' S1 a1 a2 a3 a4=>ih n to' S1 a1 a2 a3 a4 (by omega)) c.Edges.length 0 (n+1) (S.set to 1) (by omega) (by omega)
   ⟨by simp [hS],hsub,hme,fun v h1 h2 h3=>(hback v h1 h2 h3).elim,fun v h1 h2 h3=>(hback v h1 h2 h3).elim,fun e u he=>by omega⟩ (by omega)
  unfold Dfs
  rw [hFF,need_true (by omega),Option.bind_some,Int.toNat_natCast,Nat.zero_add,Nat.mul_one,get_some (by omega),Option.bind_some]
  rcases h with ⟨S',h1,h2⟩|⟨g',S',p',k,h1,h2,h3⟩
  ·rw [show LL n (to:Int) (n+1) (0,g,S.set to 1,p)=_ from h1,Option.bind_some]
   exact .inl ⟨S',rfl,h2⟩
  ·rw [show LL n (to:Int) (n+1) (0,g,S.set to 1,p)=_ from h1,Option.bind_some]
   exact .inr ⟨g',S',p',k,rfl,h2,h3⟩
end
end Go.Proofs.Ytallnifoeahpiaa
