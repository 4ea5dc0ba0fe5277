/- What a program of mine carried over from another seat of mine. -/
import Derived.Test.YtkcgfceihpampaaGreatDoorDL
import Derived.Test.YtkcgfceihpampaaGreatDoorDU
namespace Go.Proofs.YtkcgfceihpampaaGreatDoor
open Go Go.Sx
set_option linter.all false
set_option maxRecDepth 100000
abbrev P:=S_api_CvPoint
abbrev R:=S_api_CvRow
theorem e73 (n lo hi:Int):F187 n lo hi=some (decide (n<lo)||decide (n>hi)):=by
 unfold F187;cases decide (n<lo)<;>rfl
theorem e79L1 {lo hi:Int}:∀(suf pre:List Int) (n:Nat) (c:Int),c=pre.length→(pre++suf).length<2^62→suf.length<n →
 ∃o,F207L1 (pre++suf) lo hi n c=some o∧((suf.any (fun n=>decide (n<lo)||decide (n>hi))=true∧∃i,o = .inl i∧0≤i)∨(suf.any (fun n=>decide (n<lo)||decide (n>hi))=false∧o = .inr ())):=by
 intro suf
 induction suf with
 | nil =>
  intro pre n c hc hl hn
  obtain ⟨n,rfl⟩:∃m,n=m+1:=⟨n-1,by simp at hn;omega⟩
  rw [F207L1,if_neg (by simp;omega)]
  exact ⟨_,rfl,.inr ⟨rfl,rfl⟩⟩
 | cons x suf ih =>
  intro pre n c hc hl hn
  obtain ⟨n,rfl⟩:∃m,n=m+1:=⟨n-1,by simp at hn;omega⟩
  simp only [List.length_append,List.length_cons] at hl hn
  rw [F207L1,if_pos (by simp;omega),idx_mid hc,Option.bind_some,e73,Option.bind_some,List.any_cons]
  cases hb:(decide (x<lo)||decide (x>hi)) with
  | true=>simp only [if_true];exact ⟨_,rfl,.inl ⟨rfl,c,rfl,by omega⟩⟩
  | false =>
   simp only [Bool.false_eq_true,if_false,Bool.false_or]
   rw [w64_id (by omega) (by omega)]
   have:=ih (pre++[x]) n (c+1) (by simp;omega) (by simp;omega) (by omega)
   simpa using this
theorem e49 {k:Nat} {l:List Int} {lo hi:Int} (hk:l.length<k) (hl:l.length<2^62):F125 k lo hi l=some (l.any fun n=>decide (n<lo)||decide (n>hi)):=by
 unfold F125 F171 F207
 obtain ⟨o,h1,h2⟩:=e79L1 (lo:=lo) (hi:=hi) l [] k 0 rfl (by simpa using hl) hk
 rw [List.nil_append] at h1
 rw [h1]
 rcases h2 with ⟨h2,i,rfl,hi⟩|⟨h2,rfl⟩
 ·simp [outK,h2,hi]
 ·simp [outK,h2]

def okH (n:Int):Bool:=decide (0≤n)&&decide (n≤9000)

def chkL:List P→Int→(Int×Int×Int)⊕Unit
 | [],_ => .inr ()
 | p::ps,i=>if okH p.Board&&okH p.Lo&&okH p.Hi then (if decide (p.Lo≤p.Hi)&&decide (p.Hi≤p.Lo+30) then chkL ps (i+1) else .inl (2,i,2)) else .inl (2,i,7)
def chk (r:R):Int×Int×Int :=
 if decide (0≤r.Steep)&&decide (r.Steep≤200) then (if decide (1≤r.Points.length)&&decide (r.Points.length≤10) then (match chkL r.Points 0 with | .inl x=>x | .inr _=>(0,0,0)) else (1,0,3)) else (1,0,7)
theorem e16L1 {k:Nat} (hk:10≤k) {r:R}:∀(suf pre:List P) (n:Nat) (c:Int),r.Points=pre++suf→c=pre.length→(pre++suf).length<2^62→suf.length<n→F63L1 k r n c=some (chkL suf c):=by
 intro suf
 induction suf with
 | nil =>
  intro pre n c hr hc hl hn
  obtain ⟨n,rfl⟩:∃m,n=m+1:=⟨n-1,by simp at hn;omega⟩
  rw [F63L1,if_neg (by rw [hr];simp;omega)];rfl
 | cons p suf ih =>
  intro pre n c hr hc hl hn
  obtain ⟨n,rfl⟩:∃m,n=m+1:=⟨n-1,by simp at hn;omega⟩
  simp only [List.length_append,List.length_cons] at hl hn
  rw [F63L1,if_pos (by rw [hr];simp;omega),hr,idx_mid hc,Option.bind_some,e49 (by simp;omega) (by simp),Option.bind_some,chkL]
  simp only [List.any_cons,List.any_nil,Bool.or_false]
  have e:((decide (p.Board<0)||decide (p.Board>9000))||((decide (p.Lo<0)||decide (p.Lo>9000))||(decide (p.Hi<0)||decide (p.Hi>9000)))) = !(okH p.Board&&okH p.Lo&&okH p.Hi):=by
   rw [Bool.eq_iff_iff];simp [okH];omega
  rw [e]
  cases hb:(okH p.Board&&okH p.Lo&&okH p.Hi) with
  | false=>rfl
  | true =>
   have hb':okH p.Lo=true:=by revert hb;cases okH p.Board<;>cases okH p.Lo<;>simp
   simp only [okH,Bool.and_eq_true,decide_eq_true_eq] at hb'
   simp only [Bool.not_true,Bool.false_eq_true,if_false,if_true]
   rw [w64_id (by omega) (by omega),e49 (by simp;omega) (by simp),Option.bind_some]
   have e2:([p.Hi]:List Int).any (fun n=>decide (n<p.Lo)||decide (n>p.Lo+30)) = !(decide (p.Lo≤p.Hi)&&decide (p.Hi≤p.Lo+30)):=by
    rw [Bool.eq_iff_iff];simp only [List.any_cons,List.any_nil,Bool.or_false,Bool.or_eq_true,Bool.not_eq_true',Bool.and_eq_false_iff,decide_eq_true_eq,decide_eq_false_iff_not,Bool.and_eq_true,okH];omega
   rw [e2]
   cases (decide (p.Lo≤p.Hi)&&decide (p.Hi≤p.Lo+30)) with
   | false=>rfl
   | true =>
    simp only [Bool.not_true,Bool.false_eq_true,if_false,if_true]
    rw [w64_id (by omega) (by omega)]
    exact ih (pre++[p]) n (c+1) (by simp [hr]) (by simp;omega) (by simp;omega) (by omega)
theorem e16 {k:Nat} (hk:20≤k) {r:R}:F63 k r=some (chk r):=by
 unfold F63 chk
 rw [e49 (by simp;omega) (by simp),Option.bind_some]
 have e:([r.Steep]:List Int).any (fun n=>decide (n<0)||decide (n>200)) = !(decide (0≤r.Steep)&&decide (r.Steep≤200)):=by
  rw [Bool.eq_iff_iff];simp only [List.any_cons,List.any_nil,Bool.or_false,Bool.or_eq_true,Bool.not_eq_true',Bool.and_eq_false_iff,decide_eq_true_eq,decide_eq_false_iff_not,Bool.and_eq_true,okH];omega
 rw [e]
 cases (decide (0≤r.Steep)&&decide (r.Steep≤200)) with
 | false=>rfl
 | true =>
  simp only [Bool.not_true,Bool.false_eq_true,if_false,if_true]
  rw [e49 (by simp;omega) (by simp),Option.bind_some]
  have e2:([(r.Points.length:Int)]:List Int).any (fun n=>decide (n<1)||decide (n>10)) = !(decide (1≤r.Points.length)&&decide (r.Points.length≤10)):=by
   rw [Bool.eq_iff_iff];simp only [List.any_cons,List.any_nil,Bool.or_false,Bool.or_eq_true,Bool.not_eq_true',Bool.and_eq_false_iff,decide_eq_true_eq,decide_eq_false_iff_not,Bool.and_eq_true,okH];omega
  rw [e2]
  cases hb:(decide (1≤r.Points.length)&&decide (r.Points.length≤10)) with
  | false=>rfl
  | true =>
   simp only [Bool.and_eq_true,decide_eq_true_eq] at hb
   simp only [Bool.not_true,Bool.false_eq_true,if_false,if_true]
   rw [e16L1 (by omega) r.Points [] k 0 rfl rfl (by simp;omega) (by omega),Option.bind_some]
   cases chkL r.Points 0<;>rfl
theorem e50 (n lo hi:Int):F36 n lo hi=some (decide (lo≤n)&&decide (n≤hi)):=by
 unfold F36;cases h:decide (n≥lo)<;>simp_all
theorem e50h (n:Int):F36 n 0 9000=some (okH n):=e50 n 0 9000
theorem e17L1 {r:R}:∀(suf pre:List P) (n:Nat) (c:Int),r.Points=pre++suf→c=pre.length→(pre++suf).length<2^62→suf.length<n→F6L1 r n c=some (chkL suf c):=by
 intro suf
 induction suf with
 | nil =>
  intro pre n c hr hc hl hn
  obtain ⟨n,rfl⟩:∃m,n=m+1:=⟨n-1,by simp at hn;omega⟩
  rw [F6L1,if_neg (by rw [hr];simp;omega)];rfl
 | cons p suf ih =>
  intro pre n c hr hc hl hn
  obtain ⟨n,rfl⟩:∃m,n=m+1:=⟨n-1,by simp at hn;omega⟩
  simp only [List.length_append,List.length_cons] at hl hn
  rw [F6L1,if_pos (by rw [hr];simp;omega),hr,idx_mid hc,Option.bind_some,e50h,e50h,e50h,Option.bind_some,chkL]
  cases hb:okH p.Board with
  | false=>rfl
  | true =>
   cases hl':okH p.Lo with
   | false=>rfl
   | true =>
    cases hh:okH p.Hi with
    | false=>rfl
    | true =>
     simp only [okH,Bool.and_eq_true,decide_eq_true_eq] at hl'
     rw [e50]
     simp only [cond_true,Bool.not_true,cond_false,Bool.false_eq_true,if_false,Option.bind_some,Bool.not_false,optG_true]
     rw [w64_id (by omega) (by omega)]
     cases (decide (p.Lo≤p.Hi)&&decide (p.Hi≤p.Lo+30)) with
     | false=>rfl
     | true =>
      simp only [Bool.not_true,Bool.false_eq_true,if_false,if_true,Bool.and_self]
      rw [w64_id (by omega) (by omega)]
      exact ih (pre++[p]) n (c+1) (by simp [hr]) (by simp;omega) (by simp;omega) (by omega)
theorem e17 {k:Nat} (hk:20≤k) {r:R}:F6 k r=some (chk r):=by
 unfold F6 chk
 rw [e50,Option.bind_some]
 cases (decide (0≤r.Steep)&&decide (r.Steep≤200)) with
 | false=>rfl
 | true =>
  simp only [Bool.not_true,Bool.false_eq_true,if_false,if_true]
  rw [e50,Option.bind_some]
  have e2:(decide (1≤(r.Points.length:Int))&&decide ((r.Points.length:Int)≤10))=(decide (1≤r.Points.length)&&decide (r.Points.length≤10)):=by
   rw [Bool.eq_iff_iff];simp only [List.any_cons,List.any_nil,Bool.or_false,Bool.or_eq_true,Bool.not_eq_true',Bool.and_eq_false_iff,decide_eq_true_eq,decide_eq_false_iff_not,Bool.and_eq_true,okH];omega
  rw [e2]
  cases hb:(decide (1≤r.Points.length)&&decide (r.Points.length≤10)) with
  | false=>rfl
  | true =>
   simp only [Bool.and_eq_true,decide_eq_true_eq] at hb
   simp only [Bool.not_true,Bool.false_eq_true,if_false,if_true]
   rw [e17L1 r.Points [] k 0 rfl rfl (by simp;omega) (by omega),Option.bind_some]
   cases chkL r.Points 0<;>rfl

structure Good (r:R):Prop where
 s0:0≤r.Steep
 s1:r.Steep≤200
 n0:1≤r.Points.length
 n1:r.Points.length≤10
 pt:∀p∈r.Points,(0≤p.Board∧p.Board≤9000)∧(0≤p.Lo∧p.Lo≤9000)∧(0≤p.Hi∧p.Hi≤9000)∧p.Lo≤p.Hi∧p.Hi≤p.Lo+30
theorem chkL_spec:∀(l:List P) (i:Int),(chkL l i = .inr ()∧∀p∈l,(0≤p.Board∧p.Board≤9000)∧(0≤p.Lo∧p.Lo≤9000)∧(0≤p.Hi∧p.Hi≤9000)∧p.Lo≤p.Hi∧p.Hi≤p.Lo+30) ∨
 (∃x,chkL l i = .inl x∧x.2.2≠0∧¬∀p∈l,(0≤p.Board∧p.Board≤9000)∧(0≤p.Lo∧p.Lo≤9000)∧(0≤p.Hi∧p.Hi≤9000)∧p.Lo≤p.Hi∧p.Hi≤p.Lo+30):=by
 intro l
 induction l with
 | nil=>intro i;exact .inl ⟨rfl,fun p h=>by cases h⟩
 | cons p l ih =>
  intro i
  rw [chkL]
  by_cases h1:(okH p.Board&&okH p.Lo&&okH p.Hi)=true
  ·rw [if_pos h1]
   simp only [okH,Bool.and_eq_true,decide_eq_true_eq] at h1
   by_cases h2:(decide (p.Lo≤p.Hi)&&decide (p.Hi≤p.Lo+30))=true
   ·rw [if_pos h2]
    simp only [Bool.and_eq_true,decide_eq_true_eq] at h2
    rcases ih (i+1) with ⟨a,b⟩|⟨x,a,b,c⟩
    ·refine .inl ⟨a,fun q hq=>?_⟩
     rcases List.mem_cons.1 hq with rfl|hq
     ·exact ⟨h1.1.1,h1.1.2,h1.2,h2.1,h2.2⟩
     ·exact b q hq
    ·exact .inr ⟨x,a,b,fun h=>c fun q hq=>h q (by simp [hq])⟩
   ·rw [if_neg h2]
    simp only [Bool.and_eq_true,decide_eq_true_eq] at h2
    exact .inr ⟨_,rfl,by simp,fun h=>h2 ⟨(h p (by simp)).2.2.2.1,(h p (by simp)).2.2.2.2⟩⟩
  ·rw [if_neg h1]
   simp only [okH,Bool.and_eq_true,decide_eq_true_eq] at h1
   exact .inr ⟨_,rfl,by simp,fun h=>h1 ⟨⟨(h p (by simp)).1,(h p (by simp)).2.1⟩,(h p (by simp)).2.2.1⟩⟩
theorem chk_spec (r:R):(chk r=(0,0,0)∧Good r)∨((chk r).2.2≠0∧¬Good r):=by
 unfold chk
 by_cases h1:(decide (0≤r.Steep)&&decide (r.Steep≤200))=true
 ·rw [if_pos h1]
  simp only [Bool.and_eq_true,decide_eq_true_eq] at h1
  by_cases h2:(decide (1≤r.Points.length)&&decide (r.Points.length≤10))=true
  ·rw [if_pos h2]
   simp only [Bool.and_eq_true,decide_eq_true_eq] at h2
   rcases chkL_spec r.Points 0 with ⟨a,b⟩|⟨x,a,b,c⟩
   ·rw [a];exact .inl ⟨rfl,h1.1,h1.2,h2.1,h2.2,b⟩
   ·rw [a];exact .inr ⟨b,fun h=>c h.pt⟩
  ·rw [if_neg h2]
   simp only [Bool.and_eq_true,decide_eq_true_eq] at h2
   exact .inr ⟨by simp,fun h=>h2 ⟨h.n0,h.n1⟩⟩
 ·rw [if_neg h1]
  simp only [Bool.and_eq_true,decide_eq_true_eq] at h1
  exact .inr ⟨by simp,fun h=>h1 ⟨h.s0,h.s1⟩⟩
theorem chk_good {r:R} (h:Good r):chk r=(0,0,0):=by
 rcases chk_spec r with ⟨a,_⟩|⟨_,b⟩
 ·exact a
 ·exact absurd h b
theorem chk_bad {r:R} (h:¬Good r):(chk r).2.2≠0:=by
 rcases chk_spec r with ⟨_,b⟩|⟨a,_⟩
 ·exact absurd b h
 ·exact a
abbrev Sp:=S_api_Span

def dist (i k:Nat):Int:=if i≤k then (k:Int)-i else (i:Int)-k

def far (S:Int) (i k:Nat):Int:=S*dist i k
theorem dist_nonneg (i k:Nat):0≤dist i k:=by unfold dist;split<;>omega
theorem far_nonneg {S:Int} (h:0≤S) (i k:Nat):0≤far S i k:=Int.mul_nonneg h (dist_nonneg i k)
theorem far_self (S:Int) (i:Nat):far S i i=0:=by simp [far,dist]
theorem far_symm (S:Int) (i k:Nat):far S i k=far S k i:=by
 unfold far;congr 1;unfold dist;split<;>split<;>omega
theorem far_tri {S:Int} (h:0≤S) (i j k:Nat):far S i k≤far S i j+far S j k:=by
 unfold far
 rw [←Int.mul_add]
 apply Int.mul_le_mul_of_nonneg_left _ h
 unfold dist;split<;>split<;>split<;>omega
theorem far_succ (S:Int) (i k:Nat) (h:k≤i):far S (i+1) k=far S i k+S:=by
 have:dist (i+1) k=dist i k+1:=by unfold dist;split<;>split<;>omega
 rw [far,this,Int.mul_add,Int.mul_one];rfl
theorem far_pred (S:Int) (i k:Nat) (h:i<k):far S i k=far S (i+1) k+S:=by
 have:dist i k=dist (i+1) k+1:=by unfold dist;split<;>split<;>omega
 rw [far,this,Int.mul_add,Int.mul_one];rfl
theorem far_le {S:Int} (h:0≤S) (h1:S≤9000) {i k:Nat} (hi:i≤10) (hk:k≤10):far S i k≤90000:=by
 unfold far
 have h2:dist i k≤10:=by unfold dist;split<;>omega
 calc S*dist i k≤S*10:=Int.mul_le_mul_of_nonneg_left h2 h
  _≤90000:=by omega

structure Top (f:Nat→Int) (ks:Nat→Prop) (v:Int):Prop where
 ub:∀k,ks k→f k≤v
 is:∃k,ks k∧v=f k
theorem Top.imp {f g:Nat→Int} {ks ls:Nat→Prop} {u:Int} (h:Top f ks u) (hk:∀k,ks k↔ls k) (hf:∀k,ks k→f k=g k):Top g ls u:=by
 obtain ⟨k,h1,h2⟩:=h.is
 exact ⟨fun k hk'=>by rw [←hf k ((hk k).2 hk')];exact h.ub k ((hk k).2 hk'),k,(hk k).1 h1,by rw [h2,hf k h1]⟩

theorem top_fwd {S:Int} {f:Nat→Int} {i:Nat} {u v:Int} (hu:Top (fun k=>f k-far S i k) (· ≤ i) u) (hv:v=f (i+1)):Top (fun k=>f k-far S (i+1) k) (· ≤ i+1) (if u-S>v then u-S else v):=by
 obtain ⟨k,h1,h2⟩:=hu.is
 refine ⟨fun m hm=>?_,?_⟩
 ·by_cases h:m=i+1
  ·subst h;simp only [far_self];split<;>omega
  ·have:=hu.ub m (by omega)
   have e:=far_succ S i m (by omega)
   try simp only at this ⊢
   split<;>omega
 ·by_cases h:u-S>v
  ·rw [if_pos h];exact ⟨k,by omega,by have:=far_succ S i k h1;omega⟩
  ·rw [if_neg h];exact ⟨i+1,Nat.le_refl _,by simp only [far_self];omega⟩

theorem top_bwd {S:Int} (hS:0≤S) {f:Nat→Int} {i n:Nat} (hi:i+1<n) {u v:Int} (hu:Top (fun k=>f k-far S (i+1) k) (· < n) u) (hv:Top (fun k=>f k-far S i k) (· ≤ i) v) :
 Top (fun k=>f k-far S i k) (· < n) (if u-S>v then u-S else v):=by
 obtain ⟨k,h1,h2⟩:=hu.is
 obtain ⟨m,h3,h4⟩:=hv.is
 refine ⟨fun j hj=>?_,?_⟩
 ·by_cases h:j≤i
  ·have:=hv.ub j h
   try simp only at this ⊢
   split<;>omega
  ·have:=hu.ub j hj
   have e:=far_pred S i j (by omega)
   try simp only at this ⊢
   split<;>omega
 ·by_cases h:u-S>v
  ·rw [if_pos h]
   by_cases hk:k≤i
   ·exfalso
    have:=hv.ub k hk
    have e:=far_succ S i k hk
    try simp only at this h2
    omega
   ·exact ⟨k,h1,by have:=far_pred S i k (by omega);omega⟩
  ·rw [if_neg h];exact ⟨m,by omega,h4⟩
theorem getb_set {α:Type} [Inhabited α] (l:List α) (i j:Nat) (x:α) (h:i<l.length):(l.set i x)[j]! = if j=i then x else l[j]! := by
 by_cases hj:j=i
 ·subst hj;rw [if_pos rfl];simp [getElem!_def,h]
 ·rw [if_neg hj];simp [getElem!_def,List.getElem?_set_ne (Ne.symm hj)]
theorem e51r {S:Int} {ps:List P} {l:List Sp} {i j:Nat} (hi:i<l.length) (hj:j<l.length) (hij:i≠j) (hS:0≤S∧S≤9000) (hl:∀m,m<l.length→(-1000000≤l[m]!.Lo∧l[m]!.Lo≤1000000) ∧ -1000000≤l[m]!.Hi∧l[m]!.Hi≤1000000) :
 F64r i j S ps l=some (l.set j ⟨if l[i]!.Lo-S>l[j]!.Lo then l[i]!.Lo-S else l[j]!.Lo,if l[i]!.Hi+S<l[j]!.Hi then l[i]!.Hi+S else l[j]!.Hi⟩):=by
 have h1:=hl i hi
 have h2:=hl j hj
 unfold F64r
 rw [idx_nat hj,idx_nat hi]
 simp only [Option.bind_some,Int.toNat_natCast]
 rw [w64_id (by omega) (by omega),idx_nat (by simpa using hj),idx_nat (by simpa using hi)]
 simp only [Option.bind_some,getb_set _ _ _ _ hj,if_true,if_neg hij,List.set_set]
 rw [w64_id (by omega) (by omega)]

structure Fwd (S:Int) (ps:List P) (i:Nat) (l:List Sp):Prop where
 len:l.length=ps.length
 lo:∀j,j<i→j<ps.length→Top (fun k=>ps[k]!.Lo-far S j k) (· ≤ j) l[j]!.Lo
 hi:∀j,j<i→j<ps.length→Top (fun k => -ps[k]!.Hi-far S j k) (· ≤ j) (-l[j]!.Hi)
 lo':∀j,i≤j→j<ps.length→l[j]!.Lo=ps[j]!.Lo
 hi':∀j,i≤j→j<ps.length→l[j]!.Hi=ps[j]!.Hi
structure Bwd (S:Int) (ps:List P) (i:Nat) (l:List Sp):Prop where
 len:l.length=ps.length
 lo:∀j,j<i→j<ps.length→Top (fun k=>ps[k]!.Lo-far S j k) (· ≤ j) l[j]!.Lo
 hi:∀j,j<i→j<ps.length→Top (fun k => -ps[k]!.Hi-far S j k) (· ≤ j) (-l[j]!.Hi)
 lo':∀j,i≤j→j<ps.length→Top (fun k=>ps[k]!.Lo-far S j k) (· < ps.length) l[j]!.Lo
 hi':∀j,i≤j→j<ps.length→Top (fun k => -ps[k]!.Hi-far S j k) (· < ps.length) (-l[j]!.Hi)

structure Pts (S:Int) (ps:List P):Prop where
 s0:0≤S
 s1:S≤9000
 n1:ps.length≤10
 pt:∀i,i<ps.length→(0≤ps[i]!.Lo∧ps[i]!.Lo≤9000)∧(0≤ps[i]!.Hi∧ps[i]!.Hi≤9000)∧ps[i]!.Lo≤ps[i]!.Hi
theorem Top.room {S:Int} {ps:List P} (h:Pts S ps) {f:Nat→Int} (hf:∀k,k<ps.length → -9000≤f k∧f k≤9000) {j:Nat} (hj:j<ps.length) {ks:Nat→Prop} (hk:∀k,ks k→k<ps.length) {v:Int} (ht:Top (fun k=>f k-far S j k) ks v) : -1000000≤v∧v≤1000000:=by
 obtain ⟨k,h1,h2⟩:=ht.is
 have:=hf k (hk k h1)
 have:=far_nonneg h.s0 j k
 have:=far_le h.s0 h.s1 (i:=j) (k:=k) (by have:=h.n1;omega) (by have:=h.n1;have:=hk k h1;omega)
 try simp only at h2
 omega
theorem Fwd.room {S:Int} {ps:List P} {i:Nat} {l:List Sp} (h:Fwd S ps i l) (hp:Pts S ps):∀m,m<l.length→(-1000000≤l[m]!.Lo∧l[m]!.Lo≤1000000) ∧ -1000000≤l[m]!.Hi∧l[m]!.Hi≤1000000:=by
 intro m hm
 rw [h.len] at hm
 by_cases hi:m<i
 ·have h1:=Top.room hp (fun k hk=>by have:=hp.pt k hk;omega) hm (fun k hk=>by omega) (h.lo m hi hm)
  have h2:=Top.room hp (fun k hk=>by have:=hp.pt k hk;omega) hm (fun k hk=>by omega) (h.hi m hi hm)
  omega
 ·rw [h.lo' m (by omega) hm,h.hi' m (by omega) hm]
  have:=hp.pt m hm
  omega
theorem Bwd.room {S:Int} {ps:List P} {i:Nat} {l:List Sp} (h:Bwd S ps i l) (hp:Pts S ps):∀m,m<l.length→(-1000000≤l[m]!.Lo∧l[m]!.Lo≤1000000) ∧ -1000000≤l[m]!.Hi∧l[m]!.Hi≤1000000:=by
 intro m hm
 rw [h.len] at hm
 by_cases hi:m<i
 ·have h1:=Top.room hp (fun k hk=>by have:=hp.pt k hk;omega) hm (fun k hk=>by omega) (h.lo m hi hm)
  have h2:=Top.room hp (fun k hk=>by have:=hp.pt k hk;omega) hm (fun k hk=>by omega) (h.hi m hi hm)
  omega
 ·have h1:=Top.room hp (fun k hk=>by have:=hp.pt k hk;omega) hm (fun k hk=>hk) (h.lo' m (by omega) hm)
  have h2:=Top.room hp (fun k hk=>by have:=hp.pt k hk;omega) hm (fun k hk=>hk) (h.hi' m (by omega) hm)
  omega
theorem e80L1 {S:Int} {ps:List P} (hp:Pts S ps):∀(n i:Nat) (l:List Sp),ps.length-i<n→1≤i→Fwd S ps i l→∃l',F188L1 S ps ps n (i,l)=some (.inr l')∧Fwd S ps ps.length l':=by
 intro n
 induction n with
 | zero=>intro i l h;omega
 | succ n ih =>
  intro i l hn h1 h
  have hL:=hp.n1
  rw [F188L1]
  by_cases hi:i<ps.length
  ·obtain ⟨i,rfl⟩:∃j,i=j+1:=⟨i-1,by omega⟩
   rw [if_pos (by simp;omega)]
   simp only
   have e1:w64 (((i+1:Nat):Int)-1)=(i:Nat):=by rw [w64_id (by omega) (by omega)];omega
   have e2:w64 (((i+1:Nat):Int)+1)=((i+2:Nat):Int):=by rw [w64_id (by omega) (by omega)];omega
   have hlen:=h.len
   rw [e1,e2,e51r (by omega) (by omega) (by omega) ⟨hp.s0,hp.s1⟩ (h.room hp),Option.bind_some]
   refine ih (i+2) _ (by omega) (by omega) ⟨by simp [hlen],fun j hj hj'=>?_,fun j hj hj'=>?_,fun j hj hj'=>?_,fun j hj hj'=>?_⟩
   ·rw [getb_set _ _ _ _ (by omega)]
    by_cases e:j=i+1
    ·subst e
     rw [if_pos rfl]
     exact top_fwd (h.lo i (by omega) (by omega)) (h.lo' (i+1) (by omega) (by omega))
    ·rw [if_neg e];exact h.lo j (by omega) hj'
   ·rw [getb_set _ _ _ _ (by omega)]
    by_cases e:j=i+1
    ·subst e
     rw [if_pos rfl]
     have:=top_fwd (f:=fun k => -ps[k]!.Hi) (h.hi i (by omega) (by omega)) (by rw [←h.hi' (i+1) (by omega) (by omega)])
     have e:(-(if l[i]!.Hi+S<l[i+1]!.Hi then l[i]!.Hi+S else l[i+1]!.Hi))=(if -l[i]!.Hi-S > -l[i+1]!.Hi then -l[i]!.Hi-S else -l[i+1]!.Hi):=by
      split<;>split<;>omega
     rw [e];exact this
    ·rw [if_neg e];exact h.hi j (by omega) hj'
   ·rw [getb_set _ _ _ _ (by omega),if_neg (by omega)];exact h.lo' j (by omega) hj'
   ·rw [getb_set _ _ _ _ (by omega),if_neg (by omega)];exact h.hi' j (by omega) hj'
  ·rw [if_neg (by simp;omega)]
   exact ⟨l,rfl,h.len,fun j _ hj=>h.lo j (by omega) hj,fun j _ hj=>h.hi j (by omega) hj,fun j h1 h2=>by omega,fun j h1 h2=>by omega⟩
theorem e80L2 {S:Int} {ps:List P} (hp:Pts S ps):∀(n i:Nat) (l:List Sp),i<n→i<ps.length→Bwd S ps i l→∃l',F188L2 S ps n (i,l)=some (.inr l')∧Bwd S ps 0 l':=by
 intro n
 induction n with
 | zero=>intro i l h;omega
 | succ n ih =>
  intro i l hn h1 h
  have hL:=hp.n1
  rw [F188L2]
  by_cases hi:0<i
  ·obtain ⟨i,rfl⟩:∃j,i=j+1:=⟨i-1,by omega⟩
   rw [if_pos (by simp)]
   simp only
   have e1:w64 (((i+1:Nat):Int)-1)=(i:Nat):=by rw [w64_id (by omega) (by omega)];omega
   have hlen:=h.len
   rw [e1,e51r (by omega) (by omega) (by omega) ⟨hp.s0,hp.s1⟩ (h.room hp),Option.bind_some]
   refine ih i _ (by omega) (by omega) ⟨by simp [hlen],fun j hj hj'=>?_,fun j hj hj'=>?_,fun j hj hj'=>?_,fun j hj hj'=>?_⟩
   ·rw [getb_set _ _ _ _ (by omega),if_neg (by omega)];exact h.lo j (by omega) hj'
   ·rw [getb_set _ _ _ _ (by omega),if_neg (by omega)];exact h.hi j (by omega) hj'
   ·rw [getb_set _ _ _ _ (by omega)]
    by_cases e:j=i
    ·subst e
     rw [if_pos rfl]
     exact top_bwd hp.s0 (by omega) (h.lo' (j+1) (by omega) (by omega)) (h.lo j (by omega) (by omega))
    ·rw [if_neg e];exact h.lo' j (by omega) hj'
   ·rw [getb_set _ _ _ _ (by omega)]
    by_cases e:j=i
    ·subst e
     rw [if_pos rfl]
     have:=top_bwd hp.s0 (f:=fun k => -ps[k]!.Hi) (by omega) (h.hi' (j+1) (by omega) (by omega)) (h.hi j (by omega) (by omega))
     have e:(-(if l[j+1]!.Hi+S<l[j]!.Hi then l[j+1]!.Hi+S else l[j]!.Hi))=(if -l[j+1]!.Hi-S > -l[j]!.Hi then -l[j+1]!.Hi-S else -l[j]!.Hi):=by
      split<;>split<;>omega
     rw [e];exact this
    ·rw [if_neg e];exact h.hi' j (by omega) hj'
  ·have:i=0:=by omega
   subst this
   rw [if_neg (by simp)]
   exact ⟨l,rfl,h⟩
theorem e80 {k:Nat} (hk:20≤k) {S:Int} {ps:List P} (hp:Pts S ps) (h0:0<ps.length) {l:List Sp} (h:Fwd S ps 1 l):∃l',F188 k S ps l S ps=some l'∧Bwd S ps 0 l':=by
 have hL:=hp.n1
 unfold F188
 obtain ⟨l1,e1,h1⟩:=e80L1 hp k 1 l (by omega) (by omega) h
 rw [show ((1:Int),l)=(((1:Nat):Int),l) from rfl,e1,Option.bind_some,outK_inr]
 have e2:w64 ((ps.length:Int)-1)=((ps.length-1:Nat):Int):=by rw [w64_id (by omega) (by omega)];omega
 obtain ⟨l2,e3,h2⟩:=e80L2 hp k (ps.length-1) l1 (by omega) (by omega) ⟨h1.len,fun j hj hj'=>h1.lo j hj' hj',fun j hj hj'=>h1.hi j hj' hj',fun j hj hj'=>(h1.lo j hj' hj').imp (fun m=>by omega) (fun m _=>rfl),fun j hj hj'=>(h1.hi j hj' hj').imp (fun m=>by omega) (fun m _=>rfl)⟩
 rw [e2,e3,Option.bind_some,outK_inr]
 exact ⟨l2,rfl,h2⟩
theorem e81L1:∀(suf pre:List Sp) (n:Nat) (c:Int),c=pre.length→(pre++suf).length<2^62→suf.length<n →
 ∃o,F189L1 (pre++suf) n c=some o∧((suf.any (fun s=>decide (s.Lo>s.Hi))=true∧∃i,o = .inl i∧0≤i)∨(suf.any (fun s=>decide (s.Lo>s.Hi))=false∧o = .inr ())):=by
 intro suf
 induction suf with
 | nil =>
  intro pre n c hc hl hn
  obtain ⟨n,rfl⟩:∃m,n=m+1:=⟨n-1,by simp at hn;omega⟩
  rw [F189L1,if_neg (by simp;omega)]
  exact ⟨_,rfl,.inr ⟨rfl,rfl⟩⟩
 | cons x suf ih =>
  intro pre n c hc hl hn
  obtain ⟨n,rfl⟩:∃m,n=m+1:=⟨n-1,by simp at hn;omega⟩
  simp only [List.length_append,List.length_cons] at hl hn
  rw [F189L1,if_pos (by simp;omega),idx_mid hc,Option.bind_some,F135,Option.bind_some,List.any_cons]
  cases hb:decide (x.Lo>x.Hi) with
  | true=>simp only [if_true];exact ⟨_,rfl,.inl ⟨rfl,c,rfl,by omega⟩⟩
  | false =>
   simp only [Bool.false_eq_true,if_false,Bool.false_or]
   rw [w64_id (by omega) (by omega)]
   have:=ih (pre++[x]) n (c+1) (by simp;omega) (by simp;omega) (by omega)
   simpa using this
theorem e75 {k:Nat} {l:List Sp} (hk:l.length<k) (hl:l.length<2^62):F134 k l=some (l.any fun s=>decide (s.Lo>s.Hi)):=by
 unfold F134 F189
 obtain ⟨o,h1,h2⟩:=e81L1 l [] k 0 rfl (by simpa using hl) hk
 rw [List.nil_append] at h1
 rw [h1]
 rcases h2 with ⟨h2,i,rfl,hi⟩|⟨h2,rfl⟩
 ·simp [outK,h2,hi]
 ·simp [outK,h2]
theorem e51L1 {x:S_carve_row} (hL:x.CvRow.Points.length<2^62):∀(n i:Nat) (l:List Sp),x.CvRow.Points.length-i<n→i≤x.CvRow.Points.length→l.length=x.CvRow.Points.length →
 (∀j,j<i→l[j]! = ⟨x.CvRow.Points[j]!.Lo,x.CvRow.Points[j]!.Hi⟩)→∃l',F64L1 x n (i,l)=some (.inr l')∧l'.length=x.CvRow.Points.length∧∀j,j<x.CvRow.Points.length→l'[j]! = ⟨x.CvRow.Points[j]!.Lo,x.CvRow.Points[j]!.Hi⟩:=by
 intro n
 induction n with
 | zero=>intro i l h;omega
 | succ n ih =>
  intro i l hn h1 hlen h
  rw [F64L1]
  by_cases hi:i<x.CvRow.Points.length
  ·rw [if_pos (by simp;omega)]
   simp only
   rw [idx_nat hi,Option.bind_some,idx_nat (by omega),Option.bind_some,Int.toNat_natCast]
   have e2:w64 ((i:Int)+1)=((i+1:Nat):Int):=by rw [w64_id (by omega) (by omega)];omega
   rw [e2]
   refine ih (i+1) _ (by omega) (by omega) (by simp [hlen]) fun j hj=>?_
   rw [getb_set _ _ _ _ (by omega)]
   by_cases e:j=i
   ·rw [if_pos e,e]
   ·rw [if_neg e];exact h j (by omega)
  ·rw [if_neg (by simp;omega)]
   exact ⟨l,rfl,hlen,fun j hj=>h j (by omega)⟩

def Some' (S:Int) (ps:List P):Prop:=∀a b,a<ps.length→b<ps.length→ps[a]!.Lo≤ps[b]!.Hi+far S a b
theorem e51 {k:Nat} (hk:20≤k) {S:Int} {ps:List P} (hp:Pts S ps) (h0:0<ps.length):∃l b,F64 k ⟨⟨S,ps⟩⟩=some (l,b)∧Bwd S ps 0 l∧(b=true↔Some' S ps):=by
 have hL:=hp.n1
 unfold F64
 simp only
 rw [need_true (by omega),Option.bind_some]
 obtain ⟨l1,e1,h1,h2⟩:=e51L1 (x:=⟨⟨S,ps⟩⟩) (by simp;omega) k 0 (List.replicate (ps.length:Int).toNat (⟨0,0⟩:Sp)) (by simp;omega) (by omega) (by simp) (fun j hj=>by omega)
 rw [show ((0:Int),List.replicate (ps.length:Int).toNat (⟨0,0⟩:Sp))=(((0:Nat):Int),List.replicate (ps.length:Int).toNat (⟨0,0⟩:Sp)) from rfl,e1,Option.bind_some,outK_inr]
 simp only at h1 h2
 have hf:Fwd S ps 1 l1:=by
  refine ⟨h1,fun j hj hj'=>?_,fun j hj hj'=>?_,fun j _ hj'=>by rw [h2 j hj'],fun j _ hj'=>by rw [h2 j hj']⟩
  ·have:j=0:=by omega
   subst this
   rw [h2 0 hj']
   exact ⟨fun m hm=>(by have h9:m=0:=(by omega);rw [h9];simp [far_self]),0,by omega,by simp [far_self]⟩
  ·have:j=0:=by omega
   subst this
   rw [h2 0 hj']
   exact ⟨fun m hm=>(by have h9:m=0:=(by omega);rw [h9];simp [far_self]),0,by omega,by simp [far_self]⟩
 obtain ⟨l2,e2,h3⟩:=e80 hk hp h0 hf
 have hlen:=h3.len
 unfold F133v1
 simp only [Option.bind_some]
 rw [e2,Option.bind_some,e75 (by omega) (by omega),Option.bind_some]
 refine ⟨l2,_,rfl,h3,?_⟩
 simp only [Bool.not_eq_true',List.any_eq_false,decide_eq_true_eq]
 constructor
 ·intro h a b ha hb
  have hm:l2[b]! ∈ l2:=by rw [getElem!_pos l2 b (by omega)];exact List.getElem_mem _
  have:=h _ hm
  have h4:=(h3.lo' b (Nat.zero_le _) hb).ub a ha
  have h5:=(h3.hi' b (Nat.zero_le _) hb).ub b hb
  have e:=far_symm S a b
  simp only [far_self] at h4 h5
  omega
 ·intro h s hs
  obtain ⟨i,hi,rfl⟩:=List.mem_iff_getElem.1 hs
  have e:l2[i]=l2[i]! := (getElem!_pos l2 i hi).symm
  rw [e]
  rw [hlen] at hi
  obtain ⟨a,ha,h4⟩:=(h3.lo' i (Nat.zero_le _) hi).is
  obtain ⟨b,hb,h5⟩:=(h3.hi' i (Nat.zero_le _) hi).is
  have:=h a b ha hb
  have:=far_tri hp.s0 a i b
  have e:=far_symm S a i
  try simp only at h4 h5
  omega
theorem w64_nat {i:Nat} (h:i<2^62):w64 ((i:Int)+1)=((i+1:Nat):Int):=by rw [w64_id (by omega) (by omega)];omega

structure Bnd (S:Int) (ps:List P) (l:List Sp):Prop where
 len:l.length=ps.length
 lo:∀j,j<ps.length→Top (fun k=>ps[k]!.Lo-far S j k) (· < ps.length) l[j]!.Lo
 hi:∀j,j<ps.length→Top (fun k => -ps[k]!.Hi-far S j k) (· < ps.length) (-l[j]!.Hi)
theorem Bwd.bnd {S:Int} {ps:List P} {l:List Sp} (h:Bwd S ps 0 l):Bnd S ps l:=⟨h.len,fun j hj=>h.lo' j (Nat.zero_le _) hj,fun j hj=>h.hi' j (Nat.zero_le _) hj⟩
theorem Good.pts {r:R} (h:Good r):Pts r.Steep r.Points:=by
 refine ⟨h.s0,by have:=h.s1;omega,h.n1,fun i hi=>?_⟩
 have:=h.pt r.Points[i]! (by rw [getElem!_pos r.Points i hi];exact List.getElem_mem _)
 omega

structure BRes (r:R) (res:List Sp×Int):Prop where
 bad:¬Good r→res=([],(chk r).2.2)
 down:Good r→¬Some' r.Steep r.Points→res=([],9)
 ok:Good r→Some' r.Steep r.Points→res.2=0∧Bnd r.Steep r.Points res.1
theorem e18 {k:Nat} (hk:20≤k) (r:R):∃res,F11 k r=some res∧BRes r res:=by
 unfold F11
 rw [e16 hk,Option.bind_some]
 by_cases hg:Good r
 ·rw [chk_good hg]
  simp only [bne_self_eq_false,Bool.false_eq_true,if_false]
  obtain ⟨l,b,h1,h2,h3⟩:=e51 hk hg.pts (by have:=hg.n0;omega)
  have e:(⟨r⟩:S_carve_row)=⟨⟨r.Steep,r.Points⟩⟩:=rfl
  rw [e,h1,Option.bind_some]
  cases b with
  | true=>exact ⟨_,rfl,fun h=>absurd hg h,fun _ h=>absurd (h3.1 rfl) h,fun _ _=>⟨rfl,h2.bnd⟩⟩
  | false=>exact ⟨_,rfl,fun h=>absurd hg h,fun _ h=>rfl,fun _ h=>by have:=h3.2 h;cases this⟩
 ·rw [if_pos (by simpa using chk_bad hg)]
  exact ⟨_,rfl,fun _=>rfl,fun h=>absurd h hg,fun h=>absurd h hg⟩
theorem e54 {k:Nat} (hk:20≤k) {S:Int} {ps:List P} (hp:Pts S ps) (h0:0<ps.length):∃b,F68 k ⟨⟨S,ps⟩⟩=some b∧(b=true↔Some' S ps):=by
 obtain ⟨l,b,h1,_,h2⟩:=e51 hk hp h0
 unfold F68
 rw [h1]
 exact ⟨b,rfl,h2⟩

structure Need' (ps:List P) (v:Int):Prop where
 ge:0≤v
 le:v≤9000
 is:Some' v ps
 not:∀S,0≤S→S<v→¬Some' S ps
theorem far_mono {S T:Int} (h:S≤T) (i k:Nat):far S i k≤far T i k:=Int.mul_le_mul_of_nonneg_right h (dist_nonneg i k)
theorem Some'.mono {S T:Int} {ps:List P} (h:Some' S ps) (hST:S≤T):Some' T ps:=by
 intro a b ha hb
 have:=h a b ha hb
 have:=far_mono hST a b
 omega
theorem some_9000 {S:Int} {ps:List P} (hp:Pts S ps):Some' 9000 ps:=by
 intro a b ha hb
 have h1:=hp.pt a ha
 have h2:=hp.pt b hb
 by_cases e:a=b
 ·subst e;simp only [far_self];omega
 ·have:1≤dist a b:=by unfold dist;split<;>omega
  have:9000*1≤far 9000 a b:=Int.mul_le_mul_of_nonneg_left this (by omega)
  omega
theorem half {a b:Int} (h:0≤a) (h':a<b) (hb:b≤9000):w64 ((w64 (a+b)).tdiv 2)=(a+b) / 2:=by
 rw [w64_id (n:=a+b) (by omega) (by omega),Int.tdiv_eq_ediv_of_nonneg (by omega),w64_id (by omega) (by omega)]
theorem e56L1 {k:Nat} (hk:20≤k) {S:Int} {ps:List P} (hp:Pts S ps) (h0:0<ps.length):∀(n:Nat) (lo hi:Int),0≤lo→lo≤hi→hi≤9000→hi-lo<2^n→Some' hi ps→(∀T,0≤T→T<lo→¬Some' T ps) →
 ∃v,F66L1 k S ps (n+1) (lo,hi)=some (.inr v)∧Need' ps v:=by
 intro n
 induction n with
 | zero =>
  intro lo hi h1 h2 h3 h4 h5 h6
  have:lo=hi:=by omega
  subst this
  rw [F66L1,if_neg (by simp)]
  exact ⟨lo,rfl,h1,h3,h5,h6⟩
 | succ n ih =>
  intro lo hi h1 h2 h3 h4 h5 h6
  rw [F66L1]
  by_cases e:lo<hi
  ·rw [if_pos (by simpa using e)]
   simp only
   rw [half h1 e h3]
   unfold F67
   obtain ⟨o,g1,g2⟩:=e54 (S:=(lo+hi) / 2) hk ⟨by omega,by omega,hp.n1,hp.pt⟩ h0
   rw [g1,Option.bind_some,Option.bind_some]
   have e2:(2:Int)^(n+1)=2*2^n:=by rw [Int.pow_succ];omega
   rw [e2] at h4
   cases o with
   | true =>
    rw [if_pos rfl]
    exact ih lo ((lo+hi) / 2) h1 (by omega) (by omega) (by omega) (g2.1 rfl) h6
   | false =>
    simp only [Bool.false_eq_true,if_false]
    rw [w64_id (by omega) (by omega)]
    refine ih _ hi (by omega) (by omega) h3 (by omega) h5 fun T hT hT' hs=>?_
    have:=g2.2 (hs.mono (by omega))
    cases this
  ·have:lo=hi:=by omega
   subst this
   rw [if_neg (by simp)]
   exact ⟨lo,rfl,h1,h3,h5,h6⟩

structure NRes (r:R) (res:Int×Int):Prop where
 bad:¬Good r→res=(0,(chk r).2.2)
 ok:Good r→res.2=0∧Need' r.Points res.1
theorem e23 {k:Nat} (hk:20≤k) (r:R):∃res,F13 k r=some res∧NRes r res:=by
 unfold F13
 rw [e16 hk,Option.bind_some]
 by_cases hg:Good r
 ·rw [chk_good hg]
  simp only [bne_self_eq_false,Bool.false_eq_true,if_false]
  unfold F66
  obtain ⟨k',rfl⟩:∃j,k=j+1:=⟨k-1,by omega⟩
  have hpow:(9000:Int)-0<2^k':=by
   have:(2:Int)^19≤2^k':=by
    exact_mod_cast Nat.pow_le_pow_right (by omega) (show 19≤k' by omega)
   omega
  obtain ⟨v,h1,h2⟩:=e56L1 hk hg.pts (by have:=hg.n0;omega) k' 0 9000 (by omega) (by omega) (by omega) hpow (some_9000 hg.pts) (fun T h1 h2=>by omega)
  rw [h1]
  exact ⟨_,rfl,fun h=>absurd hg h,fun _=>⟨rfl,h2⟩⟩
 ·rw [if_pos (by simpa using chk_bad hg)]
  exact ⟨_,rfl,fun _=>rfl,fun h=>absurd h hg⟩
theorem e20L1 {l:List Sp} (hl:l.length<2^62):∀(m n i:Nat),m≤n→i+m=l.length→F15L1 l l (n+1) i=some (.inr ()):=by
 intro m
 induction m with
 | zero=>intro n i _ h;rw [F15L1,if_neg (by simp;omega)]
 | succ m ih =>
  intro n i hn hm
  obtain ⟨n,rfl⟩:∃j,n=j+1:=⟨n-1,by omega⟩
  rw [F15L1,if_pos (by simp;omega),idx_nat (by omega),Option.bind_some,Option.bind_some,if_neg (by simp),w64_nat (by omega)]
  exact ih n (i+1) (by omega) (by omega)
theorem e20 {k:Nat} {l:List Sp} (hk:l.length<k) (hl:l.length<2^62):F15 k l l=some true:=by
 unfold F15
 rw [if_neg (by simp)]
 obtain ⟨k',rfl⟩:∃j,k=j+1:=⟨k-1,by omega⟩
 have:=e20L1 hl l.length k' 0 (by omega) (by omega)
 rw [show (0:Int)=((0:Nat):Int) from rfl,this]
 rfl
theorem BRes.len {r:R} {res:List Sp×Int} (h:BRes r res):res.1.length≤10:=by
 by_cases hg:Good r
 ·by_cases hs:Some' r.Steep r.Points
  ·have:=(h.ok hg hs).2.len;have:=hg.n1;omega
  ·rw [h.down hg hs];simp
 ·rw [h.bad hg];simp
end Go.Proofs.YtkcgfceihpampaaGreatDoor
