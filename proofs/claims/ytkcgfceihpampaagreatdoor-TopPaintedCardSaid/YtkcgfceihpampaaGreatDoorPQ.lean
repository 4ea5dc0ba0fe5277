/- What a program of mine carried over from another seat of mine. -/
import Derived.Test.YtkcgfceihpampaaGreatDoorDG
import Derived.Test.YtkcgfceihpampaaGreatDoorDF
import Derived.Test.YtkcgfceihpampaaGreatDoorDI
import Derived.Test.YtkcgfceihpampaaGreatDoorPS
namespace Go.Proofs.YtkcgfceihpampaaGreatDoor
open Go Go.Sx
set_option linter.all false
set_option maxRecDepth 100000
abbrev Sp:=S_api_Span
abbrev Pr:=S_api_ClPair
abbrev Mp:=S_api_ClMap
theorem e80 (n lo hi:Int):F191 n lo hi=some (decide (n<lo)||decide (n>hi)):=by
 unfold F191;cases decide (n<lo)<;>rfl
theorem e90L1 {lo hi:Int}:∀(suf pre:List Int) (n:Nat) (c:Int),c=pre.length→(pre++suf).length<2^62→suf.length<n →
 ∃o,F207v2L1 (pre++suf) lo hi n c=some o∧((suf.any (fun n=>decide (n<lo)||decide (n>hi))=true∧∃i,o = .inl i∧0≤i)∨(suf.any (fun n=>decide (n<lo)||decide (n>hi))=false∧o = .inr ())):=by
 intro suf
 induction suf with
 | nil =>
  intro pre n c hc hl hn
  obtain ⟨n,rfl⟩:∃m,n=m+1:=⟨n-1,by simp at hn;omega⟩
  rw [F207v2L1,if_neg (by simp;omega)]
  exact ⟨_,rfl,.inr ⟨rfl,rfl⟩⟩
 | cons x suf ih =>
  intro pre n c hc hl hn
  obtain ⟨n,rfl⟩:∃m,n=m+1:=⟨n-1,by simp at hn;omega⟩
  simp only [List.length_append,List.length_cons] at hl hn
  rw [F207v2L1,if_pos (by simp;omega),idx_mid hc,Option.bind_some,e80,Option.bind_some,List.any_cons]
  cases hb:(decide (x<lo)||decide (x>hi)) with
  | true=>simp only [if_true];exact ⟨_,rfl,.inl ⟨rfl,c,rfl,by omega⟩⟩
  | false =>
   simp only [Bool.false_eq_true,if_false,Bool.false_or]
   rw [w64_id (by omega) (by omega)]
   have:=ih (pre++[x]) n (c+1) (by simp;omega) (by simp;omega) (by omega)
   simpa using this
theorem e52 {k:Nat} {l:List Int} {lo hi:Int} (hk:l.length<k) (hl:l.length<2^62):F144 k lo hi l=some (l.any fun n=>decide (n<lo)||decide (n>hi)):=by
 unfold F144 F171v2 F207v2
 obtain ⟨o,h1,h2⟩:=e90L1 (lo:=lo) (hi:=hi) l [] k 0 rfl (by simpa using hl) hk
 rw [List.nil_append] at h1
 rw [h1]
 rcases h2 with ⟨h2,i,rfl,hi⟩|⟨h2,rfl⟩
 ·simp [outK,h2,hi]
 ·simp [outK,h2]

def okN (lo hi n:Int):Bool:=decide (lo≤n)&&decide (n≤hi)
theorem e52_1 {k:Nat} {lo hi a:Int} (hk:2≤k):F144 k lo hi [a]=some (!okN lo hi a):=by
 rw [e52 (by simp;omega) (by simp)]
 congr 1
 rw [Bool.eq_iff_iff];simp [okN]
theorem e52_2 {k:Nat} {lo hi a b:Int} (hk:3≤k):F144 k lo hi [a,b]=some (!(okN lo hi a&&okN lo hi b)):=by
 rw [e52 (by simp;omega) (by simp)]
 congr 1
 rw [Bool.eq_iff_iff];simp [okN]

def spanE (wide:Int) (s:Sp):Int:=if okN 0 9000 s.Lo&&okN 0 9000 s.Hi then (if okN s.Lo (s.Lo+wide) s.Hi then 0 else 2) else 7
theorem e55 {k:Nat} (hk:3≤k) {s:Sp} {wide:Int} (h0:0≤wide) (h1:wide≤9000):F149 k s wide=some (spanE wide s):=by
 unfold F149 spanE
 rw [e52_2 hk,Option.bind_some]
 cases hb:(okN 0 9000 s.Lo&&okN 0 9000 s.Hi) with
 | false=>rfl
 | true =>
  simp only [okN,Bool.and_eq_true,decide_eq_true_eq] at hb
  simp only [Bool.not_true,Bool.false_eq_true,if_false,if_true]
  rw [w64_id (by omega) (by omega),e52_1 (by omega),Option.bind_some]
  cases okN s.Lo (s.Lo+wide) s.Hi<;>rfl

def pairE (below:Int) (p:Pr):Int:=if okN 0 (below-1) p.A&&okN 0 (below-1) p.B then (if p.A==p.B then 2 else 0) else 4
theorem e59 {k:Nat} (hk:3≤k) {p:Pr} {below:Int} (h0 : -2^62≤below) (h1:below≤2^62):F153 k p below=some (pairE below p):=by
 unfold F153 pairE
 rw [w64_id (by omega) (by omega),e52_2 hk,Option.bind_some]
 cases (okN 0 (below-1) p.A&&okN 0 (below-1) p.B) with
 | false=>rfl
 | true =>
  simp only [Bool.not_true,Bool.false_eq_true,if_false,if_true]
  cases p.A==p.B<;>rfl

def fstE {α:Type} (g:α→Int):List α→Int→(Int×Int)⊕Unit
 | [],_ => .inr ()
 | x::xs,i=>if g x != 0 then .inl (i,g x) else fstE g xs (i+1)
def outE (o:(Int×Int)⊕Unit):Int×Int:=match o with | .inl p=>p | .inr _=>(0,0)
theorem fst_loop {α:Type} {l:List α} {L:Nat→Int→Option ((Int×Int)⊕Unit)} {f:α→Option Int} {g:α→Int} (hf:∀x∈l,f x=some (g x)) (h62:l.length<2^62)
 (hL:∀n c,L (n+1) c=if (decide (c<(l.length:Int))) then ((idx l c).bind fun x=>(f x).bind fun e=>if (e != 0) then (some (.inl (c,e))) else (L n (w64 (c+1)))) else (some (.inr ()))) :
 ∀(suf pre:List α) (n:Nat) (c:Int),l=pre++suf→c=pre.length→suf.length<n→L n c=some (fstE g suf c):=by
 intro suf
 induction suf with
 | nil =>
  intro pre n c hl hc hn
  obtain ⟨n,rfl⟩:∃m,n=m+1:=⟨n-1,by simp at hn;omega⟩
  rw [hL,if_neg (by rw [hl];simp;omega)];rfl
 | cons x suf ih =>
  intro pre n c hl hc hn
  obtain ⟨n,rfl⟩:∃m,n=m+1:=⟨n-1,by simp at hn;omega⟩
  have hlen:l.length=pre.length+(suf.length+1):=by rw [hl];simp
  simp only [List.length_cons] at hn
  rw [hL,if_pos (by simp;omega)]
  rw [show idx l c=some x by rw [hl];exact idx_mid hc,Option.bind_some,hf x (by rw [hl];simp),Option.bind_some,fstE]
  cases g x != 0 with
  | true=>rfl
  | false =>
   simp only [Bool.false_eq_true,if_false]
   rw [w64_id (by omega) (by omega)]
   exact ih (pre++[x]) n (c+1) (by simp [hl]) (by simp;omega) (by omega)
theorem e53 {k:Nat} (hk:3≤k) {l:List Sp} (hl:l.length<k) (h62:l.length<2^62):F147 k l=some (outE (fstE (spanE 20) l 0)):=by
 unfold F147
 rw [fst_loop (L:=F147L1 k l) (f:=F148 k) (g:=spanE 20) (fun x _=>by unfold F148;rw [e55 hk (by omega) (by omega)];rfl) h62 (fun n c=>rfl) l [] k 0 rfl rfl hl,Option.bind_some]
 cases fstE (spanE 20) l 0<;>rfl
theorem e53v {k:Nat} (hk:3≤k) {l:List Sp} (hl:l.length<k) (h62:l.length<2^62):F147v1 k l=some (outE (fstE (spanE 9000) l 0)):=by
 unfold F147v1
 rw [fst_loop (L:=F147v1L1 k l) (f:=F150 k) (g:=spanE 9000) (fun x _=>by unfold F150;rw [e55 hk (by omega) (by omega)];rfl) h62 (fun n c=>rfl) l [] k 0 rfl rfl hl,Option.bind_some]
 cases fstE (spanE 9000) l 0<;>rfl
theorem e57 {k:Nat} (hk:3≤k) {l:List Pr} (hl:l.length<k) (h62:l.length<2^62) {b0:List Sp} {b1:Int} {b2:List Sp} {b3:List Pr} {b4:Int} {b5:List Pr} (hb:b2.length<2^62) :
 F151 k l b0 b1 b2 b3 b4 b5=some (outE (fstE (pairE b2.length) l 0)):=by
 unfold F151
 rw [fst_loop (L:=F151L1 k l b0 b1 b2 b3 b4 b5) (f:=fun x=>F152 k x b0 b1 b2 b3 b4 b5) (g:=pairE b2.length) (fun x _=>by unfold F152;rw [e59 hk (by omega) (by omega)];rfl) h62 (fun n c=>rfl) l [] k 0 rfl rfl hl,Option.bind_some]
 cases fstE (pairE b2.length) l 0<;>rfl
theorem e57v {k:Nat} (hk:3≤k) {l:List Pr} (hl:l.length<k) (h62:l.length<2^62) {b0:List Sp} {b1:Int} {b2:List Sp} {b3:List Pr} {b4:Int} {b5:List Pr} (h0 : -2^62≤b4) (h1:b4≤2^62) :
 F151v1 k l b0 b1 b2 b3 b4 b5=some (outE (fstE (pairE b4) l 0)):=by
 unfold F151v1
 rw [fst_loop (L:=F151v1L1 k l b0 b1 b2 b3 b4 b5) (f:=fun x=>F154 k x b0 b1 b2 b3 b4 b5) (g:=pairE b4) (fun x _=>by unfold F154;rw [e59 hk h0 h1];rfl) h62 (fun n c=>rfl) l [] k 0 rfl rfl hl,Option.bind_some]
 cases fstE (pairE b4) l 0<;>rfl

def longM (m:Mp):Bool:=okN 1 5 m.Borders.length&&okN 1 8 m.Heights.length&&decide (m.Sides.length≤10)&&decide (m.Like.length≤8)
def numsM (m:Mp):Bool:=okN 1 1000 m.Step&&okN 1 6 m.Inks
def chk (m:Mp):Int×Int×Int :=
 if longM m then (if numsM m then
  (match fstE (spanE 20) m.Borders 0 with
   | .inl p=>(2,p)
   | .inr _=>match fstE (spanE 9000) m.Heights 0 with
    | .inl p=>(3,p)
    | .inr _=>match fstE (pairE m.Heights.length) m.Sides 0 with
     | .inl p=>(4,p)
     | .inr _=>match fstE (pairE m.Inks) m.Like 0 with
      | .inl p=>(5,p)
      | .inr _=>(0,0,0)) else (1,0,7)) else (1,0,3)
theorem fstE_ne {α:Type} (g:α→Int):∀(l:List α) (i:Int) p,fstE g l i = .inl p→(p.2 != 0)=true:=by
 intro l
 induction l with
 | nil=>intro i p h;simp [fstE] at h
 | cons x xs ih =>
  intro i p h
  simp only [fstE] at h
  split at h
  ·rename_i hx;simp only [Sum.inl.injEq] at h;subst h;exact hx
  ·exact ih _ _ h
theorem e17 {k:Nat} (hk:20≤k) {m:Mp}:F85 k m=some (chk m):=by
 unfold F85 chk
 rw [e52_1 (by omega),Option.bind_some]
 have e2:optG (!(!okN 1 5 (m.Borders.length:Int))) (F144 k 1 8 [(m.Heights.length:Int)])=some (cond (okN 1 5 (m.Borders.length:Int)) (!okN 1 8 (m.Heights.length:Int)) default):=by
  rw [Bool.not_not]
  cases okN 1 5 (m.Borders.length:Int) with
  | true=>rw [optG_true,e52_1 (by omega)];rfl
  | false=>rfl
 rw [e2,Option.bind_some]
 have e3:(cond (cond (cond (!okN 1 5 (m.Borders.length:Int)) true (cond (okN 1 5 (m.Borders.length:Int)) (!okN 1 8 (m.Heights.length:Int)) default)) true (decide ((m.Sides.length:Int)>10))) true (decide ((m.Like.length:Int)>8))) = !longM m:=by
  unfold longM
  have h3:decide ((m.Sides.length:Int)>10) = !decide (m.Sides.length≤10):=by rw [Bool.eq_iff_iff];simp;omega
  have h4:decide ((m.Like.length:Int)>8) = !decide (m.Like.length≤8):=by rw [Bool.eq_iff_iff];simp;omega
  rw [h3,h4]
  cases okN 1 5 (m.Borders.length:Int)<;>cases okN 1 8 (m.Heights.length:Int)<;>cases decide (m.Sides.length≤10)<;>cases decide (m.Like.length≤8)<;>rfl
 rw [e3]
 cases hl:longM m with
 | false=>rfl
 | true =>
  simp only [longM,okN,Bool.and_eq_true,decide_eq_true_eq] at hl
  obtain ⟨⟨⟨l1,l2⟩,l3⟩,l4⟩:=hl
  simp only [Bool.not_true,Bool.false_eq_true,if_false,if_true]
  rw [e52_1 (by omega),Option.bind_some]
  have e4:optG (!(!okN 1 1000 m.Step)) (F144 k 1 6 [m.Inks])=some (cond (okN 1 1000 m.Step) (!okN 1 6 m.Inks) default):=by
   rw [Bool.not_not]
   cases okN 1 1000 m.Step with
   | true=>rw [optG_true,e52_1 (by omega)];rfl
   | false=>rfl
  rw [e4,Option.bind_some]
  have e5:(cond (!okN 1 1000 m.Step) true (cond (okN 1 1000 m.Step) (!okN 1 6 m.Inks) default)) = !numsM m:=by
   unfold numsM
   cases okN 1 1000 m.Step<;>cases okN 1 6 m.Inks<;>rfl
  rw [e5]
  cases hn:numsM m with
  | false=>rfl
  | true =>
   simp only [numsM,okN,Bool.and_eq_true,decide_eq_true_eq] at hn
   simp only [Bool.not_true,Bool.false_eq_true,if_false,if_true]
   rw [e53 (by omega) (by omega) (by omega),Option.bind_some]
   cases h1:fstE (spanE 20) m.Borders 0 with
   | inl p=>simp only [outE,fstE_ne _ _ _ _ h1,if_true]
   | inr u =>
    simp only [outE,bne_self_eq_false,Bool.false_eq_true,if_false]
    rw [e53v (by omega) (by omega) (by omega),Option.bind_some]
    cases h2:fstE (spanE 9000) m.Heights 0 with
    | inl p=>simp only [outE,fstE_ne _ _ _ _ h2,if_true]
    | inr u =>
     simp only [outE,bne_self_eq_false,Bool.false_eq_true,if_false]
     rw [e57 (by omega) (by omega) (by omega) (by omega),Option.bind_some]
     cases h3:fstE (pairE m.Heights.length) m.Sides 0 with
     | inl p=>simp only [outE,fstE_ne _ _ _ _ h3,if_true]
     | inr u =>
      simp only [outE,bne_self_eq_false,Bool.false_eq_true,if_false]
      rw [e57v (by omega) (by omega) (by omega) (by omega) (by omega),Option.bind_some]
      cases h4:fstE (pairE m.Inks) m.Like 0 with
      | inl p=>simp only [outE,fstE_ne _ _ _ _ h4,if_true]
      | inr u=>rfl
theorem e61 (n lo hi:Int):F82 n lo hi=some (okN lo hi n):=by
 unfold F82 okN;cases h:decide (n≥lo)<;>simp_all
theorem e91 (n lo hi:Int):F71 n lo hi=some (okN lo hi n):=by
 unfold F71 okN;cases h:decide (n≥lo)<;>simp_all

def rangeE (s:Sp):Int:=if okN 0 9000 s.Lo&&okN 0 9000 s.Hi then (if decide (s.Lo>s.Hi) then 2 else 0) else 7
theorem e62 {k:Nat} (hk:2≤k) {s:Sp}:F83 k s 0 9000=some (rangeE s):=by
 obtain ⟨n,rfl⟩:∃n,k=n+2:=⟨k-2,by omega⟩
 unfold F83 F146 rangeE
 rw [F146L1]
 have hi:idx [s] 0=some s:=rfl
 have h0:decide ((0:Int)<(([s]:List S_api_Span).length:Int))=true:=by simp
 simp only [h0,if_true,hi,Option.bind_some,e91]
 cases h1:okN 0 9000 s.Lo with
 | false=>rfl
 | true =>
  simp only [Bool.not_true,Bool.not_false,optG_true,Option.bind_some,e91]
  cases h2:okN 0 9000 s.Hi with
  | false=>rfl
  | true =>
   have hw:w64 (0+1)=1:=by decide
   have hl:∀c,F146L1 [s] 0 9000 (n+1) (c,1)=some (.inr c):=by
    intro c
    rw [F146L1]
    have h0:decide ((1:Int)<(([s]:List S_api_Span).length:Int))=false:=by simp
    simp [h0]
   simp only [Bool.not_true,cond_false,Bool.false_eq_true,if_false,hw,hl,Bool.and_self,if_true]
   cases decide (s.Lo>s.Hi)<;>rfl
theorem range20 (s:Sp):spanE 20 s=(if (rangeE s==0)&&decide (s.Hi>s.Lo+20) then 2 else rangeE s):=by
 unfold spanE rangeE okN
 by_cases h1:0≤s.Lo<;>by_cases h2:s.Lo≤9000<;>by_cases h3:0≤s.Hi<;>by_cases h4:s.Hi≤9000<;>simp [h1,h2,h3,h4]
 by_cases h5:s.Hi<s.Lo
 ·simp [h5,show ¬s.Lo≤s.Hi by omega]
 ·by_cases h6:s.Lo+20<s.Hi
  ·simp [h5,h6,show s.Lo≤s.Hi by omega,show ¬s.Hi≤s.Lo+20 by omega]
  ·simp [h5,h6,show s.Lo≤s.Hi by omega,show s.Hi≤s.Lo+20 by omega]
theorem range9000 (s:Sp):spanE 9000 s=rangeE s:=by
 unfold spanE rangeE okN
 by_cases h1:0≤s.Lo<;>by_cases h2:s.Lo≤9000<;>by_cases h3:0≤s.Hi<;>by_cases h4:s.Hi≤9000<;>simp [h1,h2,h3,h4]
 by_cases h5:s.Hi<s.Lo
 ·simp [h5,show ¬s.Lo≤s.Hi by omega]
 ·simp [h5,show s.Lo≤s.Hi by omega,show s.Hi≤s.Lo+9000 by omega]
theorem e63 {p:Pr} {below:Int} (h0 : -2^62≤below) (h1:below≤2^62):F84 p below=some (pairE below p):=by
 unfold F84 pairE
 rw [w64_id (by omega) (by omega),e61,Option.bind_some,e61]
 cases okN 0 (below-1) p.A with
 | false=>rfl
 | true =>
  simp only [Bool.not_true,Bool.not_false,optG_true,Option.bind_some,cond_false]
  cases okN 0 (below-1) p.B with
  | false=>rfl
  | true =>
   simp only [Bool.not_true,Bool.false_eq_true,if_false,if_true,Bool.and_self]
   cases p.A==p.B<;>rfl
def tag (p:Int) (o:(Int×Int)⊕Unit):(Int×Int×Int)⊕Unit:=match o with | .inl q => .inl (p,q) | .inr u => .inr u
theorem tag_loop {α:Type} {l:List α} {p:Int} {L:Nat→Int→Option ((Int×Int×Int)⊕Unit)} {f:α→Option Int} {g:α→Int} (hf:∀x∈l,f x=some (g x)) (h62:l.length<2^62)
 (hL:∀n c,c<2^62→L (n+1) c=if (decide (c<(l.length:Int))) then ((idx l c).bind fun x=>(f x).bind fun e=>if (e != 0) then (some (.inl (p,c,e))) else (L n (w64 (c+1)))) else (some (.inr ()))) :
 ∀(suf pre:List α) (n:Nat) (c:Int),l=pre++suf→c=pre.length→suf.length<n→L n c=some (tag p (fstE g suf c)):=by
 intro suf
 induction suf with
 | nil =>
  intro pre n c hl hc hn
  obtain ⟨n,rfl⟩:∃m,n=m+1:=⟨n-1,by simp at hn;omega⟩
  have:l.length=pre.length:=by rw [hl];simp
  rw [hL _ _ (by omega),if_neg (by rw [hl];simp;omega)];rfl
 | cons x suf ih =>
  intro pre n c hl hc hn
  obtain ⟨n,rfl⟩:∃m,n=m+1:=⟨n-1,by simp at hn;omega⟩
  have hlen:l.length=pre.length+(suf.length+1):=by rw [hl];simp
  simp only [List.length_cons] at hn
  rw [hL _ _ (by omega),if_pos (by simp;omega)]
  rw [show idx l c=some x by rw [hl];exact idx_mid hc,Option.bind_some,hf x (by rw [hl];simp),Option.bind_some,fstE]
  cases g x != 0 with
  | true=>rfl
  | false =>
   simp only [Bool.false_eq_true,if_false]
   rw [w64_id (by omega) (by omega)]
   exact ih (pre++[x]) n (c+1) (by simp [hl]) (by simp;omega) (by omega)
theorem e18L1 {k:Nat} (hk:20≤k) {m:Mp} (h:m.Borders.length≤5):F20L1 k m k 0=some (tag 2 (fstE (spanE 20) m.Borders 0)):=by
 refine tag_loop (l:=m.Borders) (L:=F20L1 k m) (f:=fun s=>some (spanE 20 s)) (fun _ _=>rfl) (by omega) ?_ m.Borders [] k 0 rfl rfl (by omega)
 intro n c hc
 rw [F20L1]
 by_cases h0:c<(m.Borders.length:Int)
 ·simp only [h0,decide_true,if_true]
  cases hx:idx m.Borders c with
  | none=>rfl
  | some s =>
   simp only [Option.bind_some]
   rw [e62 (by omega),Option.bind_some]
   rw [range20]
   cases h1:(rangeE s==0) with
   | false =>
    simp only [optG_false,Option.bind_some,cond_false,Bool.false_eq_true,if_false,Bool.false_and,outK_inr]
   | true =>
    have hs:0≤s.Lo∧s.Lo≤9000:=by
     unfold rangeE okN at h1
     by_cases q:0≤s.Lo∧s.Lo≤9000
     ·exact q
     ·have:(decide (0≤s.Lo)&&decide (s.Lo≤9000))=false:=by simp;omega
      simp [this] at h1
    simp only [optG_true,Option.bind_some,cond_true,Bool.true_and]
    rw [w64_id (by omega) (by omega)]
    cases decide (s.Hi>s.Lo+20)<;>simp only [Bool.false_eq_true,if_false,if_true,Option.bind_some,outK_inr]
 ·simp only [h0,decide_false,Bool.false_eq_true,if_false]
theorem e18L2 {k:Nat} (hk:20≤k) {m:Mp} (h:m.Heights.length≤8):F20L2 k m k 0=some (tag 3 (fstE (spanE 9000) m.Heights 0)):=by
 refine tag_loop (l:=m.Heights) (L:=F20L2 k m) (f:=fun s=>F83 k s 0 9000) (fun x _=>by rw [e62 (by omega),range9000]) (by omega) (fun n c _=>rfl) m.Heights [] k 0 rfl rfl (by omega)
theorem e18L3 {k:Nat} (hk:20≤k) {m:Mp} (h:m.Sides.length≤10) (hh:m.Heights.length≤8):F20L3 m k 0=some (tag 4 (fstE (pairE m.Heights.length) m.Sides 0)):=by
 refine tag_loop (l:=m.Sides) (L:=F20L3 m) (f:=fun s=>F84 s (m.Heights.length:Int)) (fun x _=>e63 (by omega) (by omega)) (by omega) (fun n c _=>rfl) m.Sides [] k 0 rfl rfl (by omega)
theorem e18L4 {k:Nat} (hk:20≤k) {m:Mp} (h:m.Like.length≤8) (h1:1≤m.Inks) (h2:m.Inks≤6):F20L4 m k 0=some (tag 5 (fstE (pairE m.Inks) m.Like 0)):=by
 refine tag_loop (l:=m.Like) (L:=F20L4 m) (f:=fun s=>F84 s m.Inks) (fun x _=>e63 (by omega) (by omega)) (by omega) (fun n c _=>rfl) m.Like [] k 0 rfl rfl (by omega)
theorem e18 {k:Nat} (hk:20≤k) {m:Mp}:F20 k m=some (chk m):=by
 unfold F20 chk
 rw [e61,Option.bind_some,e61]
 have e2:optG (!(!okN 1 5 (m.Borders.length:Int))) (some (okN 1 8 (m.Heights.length:Int)))=some (cond (okN 1 5 (m.Borders.length:Int)) (okN 1 8 (m.Heights.length:Int)) default):=by
  cases okN 1 5 (m.Borders.length:Int)<;>rfl
 rw [e2,Option.bind_some]
 have e3:(cond (cond (cond (!okN 1 5 (m.Borders.length:Int)) true (!(cond (okN 1 5 (m.Borders.length:Int)) (okN 1 8 (m.Heights.length:Int)) default))) true (decide ((m.Sides.length:Int)>10))) true (decide ((m.Like.length:Int)>8))) = !longM m:=by
  unfold longM
  have h3:decide ((m.Sides.length:Int)>10) = !decide (m.Sides.length≤10):=by rw [Bool.eq_iff_iff];simp;omega
  have h4:decide ((m.Like.length:Int)>8) = !decide (m.Like.length≤8):=by rw [Bool.eq_iff_iff];simp;omega
  rw [h3,h4]
  cases okN 1 5 (m.Borders.length:Int)<;>cases okN 1 8 (m.Heights.length:Int)<;>cases decide (m.Sides.length≤10)<;>cases decide (m.Like.length≤8)<;>rfl
 rw [e3]
 cases hl:longM m with
 | false=>rfl
 | true =>
  simp only [longM,okN,Bool.and_eq_true,decide_eq_true_eq] at hl
  obtain ⟨⟨⟨l1,l2⟩,l3⟩,l4⟩:=hl
  simp only [Bool.not_true,Bool.false_eq_true,if_false,if_true]
  rw [e61,Option.bind_some,e61]
  have e4:optG (!(!okN 1 1000 m.Step)) (some (okN 1 6 m.Inks))=some (cond (okN 1 1000 m.Step) (okN 1 6 m.Inks) default):=by
   cases okN 1 1000 m.Step<;>rfl
  rw [e4,Option.bind_some]
  have e5:(cond (!okN 1 1000 m.Step) true (!(cond (okN 1 1000 m.Step) (okN 1 6 m.Inks) default))) = !numsM m:=by
   unfold numsM
   cases okN 1 1000 m.Step<;>cases okN 1 6 m.Inks<;>rfl
  rw [e5]
  cases hn:numsM m with
  | false=>rfl
  | true =>
   simp only [numsM,okN,Bool.and_eq_true,decide_eq_true_eq] at hn
   simp only [Bool.not_true,Bool.false_eq_true,if_false,if_true]
   rw [e18L1 hk (by omega),Option.bind_some]
   cases h1:fstE (spanE 20) m.Borders 0 with
   | inl p=>rfl
   | inr u =>
    simp only [tag,outK_inr]
    rw [e18L2 hk (by omega),Option.bind_some]
    cases h2:fstE (spanE 9000) m.Heights 0 with
    | inl p=>rfl
    | inr u =>
     simp only [tag,outK_inr]
     rw [e18L3 hk (by omega) (by omega),Option.bind_some]
     cases h3:fstE (pairE m.Heights.length) m.Sides 0 with
     | inl p=>rfl
     | inr u =>
      simp only [tag,outK_inr]
      rw [e18L4 hk (by omega) (by omega) (by omega),Option.bind_some]
      cases h4:fstE (pairE m.Inks) m.Like 0 with
      | inl p=>rfl
      | inr u=>rfl

structure GoodM (m:Mp):Prop where
 b0:1≤m.Borders.length
 b1:m.Borders.length≤5
 h0:1≤m.Heights.length
 h1:m.Heights.length≤8
 s1:m.Sides.length≤10
 l1:m.Like.length≤8
 st0:1≤m.Step
 st1:m.Step≤1000
 i0:1≤m.Inks
 i1:m.Inks≤6
 bor:∀s∈m.Borders,0≤s.Lo∧s.Lo≤s.Hi∧s.Hi≤9000∧s.Hi≤s.Lo+20
 hei:∀s∈m.Heights,0≤s.Lo∧s.Lo≤s.Hi∧s.Hi≤9000
 sid:∀p∈m.Sides,(0≤p.A∧p.A<m.Heights.length)∧(0≤p.B∧p.B<m.Heights.length)∧p.A≠p.B
 lik:∀p∈m.Like,(0≤p.A∧p.A<m.Inks)∧(0≤p.B∧p.B<m.Inks)∧p.A≠p.B
theorem fstE_inr {α:Type} (g:α→Int):∀(l:List α) (i:Int) u,fstE g l i = .inr u→∀x∈l,g x=0:=by
 intro l
 induction l with
 | nil=>intro i u _ x hx;simp at hx
 | cons y ys ih =>
  intro i u h x hx
  simp only [fstE] at h
  split at h
  ·simp at h
  ·rename_i hy
   rcases List.mem_cons.1 hx with rfl|hx
   ·simpa using hy
   ·exact ih _ _ h x hx
theorem fstE_all {α:Type} (g:α→Int):∀(l:List α) (i:Int),(∀x∈l,g x=0)→fstE g l i = .inr ():=by
 intro l
 induction l with
 | nil=>intro i _;rfl
 | cons y ys ih =>
  intro i h
  simp only [fstE,h y (by simp),bne_self_eq_false,Bool.false_eq_true,if_false]
  exact ih _ fun x hx=>h x (by simp [hx])
theorem spanE_zero {w:Int} {s:Sp}:spanE w s=0↔0≤s.Lo∧s.Lo≤s.Hi∧s.Hi≤9000∧s.Hi≤s.Lo+w:=by
 unfold spanE okN
 by_cases h1:0≤s.Lo<;>by_cases h2:s.Lo≤9000<;>by_cases h3:0≤s.Hi<;>by_cases h4:s.Hi≤9000<;>by_cases h5:s.Lo≤s.Hi<;>by_cases h6:s.Hi≤s.Lo+w<;>simp [h1,h2,h3,h4,h5,h6]<;>omega
theorem pairE_zero {n:Int} {p:Pr}:pairE n p=0↔(0≤p.A∧p.A<n)∧(0≤p.B∧p.B<n)∧p.A≠p.B:=by
 unfold pairE okN
 by_cases h1:0≤p.A<;>by_cases h2:p.A≤n-1<;>by_cases h3:0≤p.B<;>by_cases h4:p.B≤n-1<;>by_cases h5:p.A=p.B<;>simp [h1,h2,h3,h4,h5]<;>omega
theorem chk_good {m:Mp}:(chk m).2.2=0↔GoodM m:=by
 constructor
 ·intro h
  unfold chk at h
  split at h
  ·rename_i hl
   split at h
   ·rename_i hn
    simp only [longM,numsM,okN,Bool.and_eq_true,decide_eq_true_eq] at hl hn
    cases h1:fstE (spanE 20) m.Borders 0 with
    | inl p=>simp only [h1] at h;have:=fstE_ne _ _ _ _ h1;simp at this;omega
    | inr u =>
     cases h2:fstE (spanE 9000) m.Heights 0 with
     | inl p=>simp only [h1,h2] at h;have:=fstE_ne _ _ _ _ h2;simp at this;omega
     | inr u =>
      cases h3:fstE (pairE m.Heights.length) m.Sides 0 with
      | inl p=>simp only [h1,h2,h3] at h;have:=fstE_ne _ _ _ _ h3;simp at this;omega
      | inr u =>
       cases h4:fstE (pairE m.Inks) m.Like 0 with
       | inl p=>simp only [h1,h2,h3,h4] at h;have:=fstE_ne _ _ _ _ h4;simp at this;omega
       | inr u =>
        have k1:=fstE_inr _ _ _ _ h1
        have k2:=fstE_inr _ _ _ _ h2
        have k3:=fstE_inr _ _ _ _ h3
        have k4:=fstE_inr _ _ _ _ h4
        refine ⟨by omega,by omega,by omega,by omega,by omega,by omega,by omega,by omega,by omega,by omega,fun s hs=>spanE_zero.1 (k1 s hs),fun s hs=>?_,fun p hp=>pairE_zero.1 (k3 p hp),fun p hp=>pairE_zero.1 (k4 p hp)⟩
        have:=spanE_zero.1 (k2 s hs)
        omega
   ·simp at h
  ·simp at h
 ·intro g
  have hl:longM m=true:=by
   have:=g.b0;have:=g.b1;have:=g.h0;have:=g.h1;have:=g.s1;have:=g.l1
   simp only [longM,okN,Bool.and_eq_true,decide_eq_true_eq];omega
  have hn:numsM m=true:=by
   have:=g.st0;have:=g.st1;have:=g.i0;have:=g.i1
   simp only [numsM,okN,Bool.and_eq_true,decide_eq_true_eq];omega
  unfold chk
  rw [if_pos hl,if_pos hn,fstE_all _ _ _ (fun s hs=>spanE_zero.2 (g.bor s hs)),fstE_all _ _ _ (fun s hs=>spanE_zero.2 (by have:=g.hei s hs;omega)),fstE_all _ _ _ (fun p hp=>pairE_zero.2 (g.sid p hp)),fstE_all _ _ _ (fun p hp=>pairE_zero.2 (g.lik p hp))]

def early (step:Int) (prev:Option Int) (n:Int):Bool:=match prev with|some q=>decide (n<q+step)|none=>false

def legE (step:Int):Option Int→List Int→List Sp→Int→(Int×Int)⊕Unit
 | _,[],_,_ => .inr ()
 | _,_::_,[],_ => .inr ()
 | prev,n::ns,b::bs,i =>
  if okN b.Lo b.Hi n then (if early step prev n then .inl (i,2) else legE step (some n) ns bs (i+1)) else .inl (i,7)
theorem legE_cons {step:Int} {prev:Option Int} {n:Int} {ns:List Int} {b:Sp} {bs:List Sp} {i:Int}:legE step prev (n::ns) (b::bs) i =
 if okN b.Lo b.Hi n then (if early step prev n then .inl (i,2) else legE step (some n) ns bs (i+1)) else .inl (i,7):=rfl
def chkLeg (m:Mp) (l:List Int):Int×Int :=
 if (chk m).2.2 != 0 then (0,(chk m).2.2) else (if l.length=m.Borders.length then outE (legE m.Step none l m.Borders 0) else (0,3))
theorem e19L1 {k:Nat} (hk:20≤k) {m:Mp} (g:GoodM m) {l:List Int}:∀(suf pre:List Int) (bs bpre:List Sp) (n:Nat) (c:Int) (prev:Option Int),l=pre++suf→m.Borders=bpre++bs→bpre.length=pre.length→bs.length=suf.length→c=pre.length→suf.length<n →
 prev=pre.getLast? → (∀q,prev=some q→0≤q∧q≤9000)→F155L1 k m l n c=some (legE m.Step prev suf bs c):=by
 intro suf
 induction suf with
 | nil =>
  intro pre bs bpre n c prev hl hb hbp hbs hc hn hp hq
  obtain ⟨n,rfl⟩:∃m,n=m+1:=⟨n-1,by simp at hn;omega⟩
  rw [F155L1,if_neg (by rw [hl];simp;omega)]
  cases bs<;>cases prev<;>rfl
 | cons x suf ih =>
  intro pre bs bpre n c prev hl hb hbp hbs hc hn hp hq
  obtain ⟨n,rfl⟩:∃m,n=m+1:=⟨n-1,by simp at hn;omega⟩
  cases bs with
  | nil=>simp at hbs
  | cons b bs =>
   have hb1:=g.b1
   have hbl:m.Borders.length=bpre.length+(bs.length+1):=by rw [hb];simp
   simp only [List.length_cons] at hn hbs
   have hlen:l.length=pre.length+(suf.length+1):=by rw [hl];simp
   have hib:idx m.Borders c=some b:=by rw [hb];exact idx_mid (by omega)
   rw [F155L1,if_pos (by simp;omega),show idx l c=some x by rw [hl];exact idx_mid hc,Option.bind_some,hib,Option.bind_some,Option.bind_some,e52_1 (by omega),Option.bind_some,legE_cons]
   have hg:=g.bor b (by rw [hb];simp)
   cases hx:okN b.Lo b.Hi x with
   | false=>rfl
   | true =>
    simp only [okN,Bool.and_eq_true,decide_eq_true_eq] at hx
    simp only [Bool.not_true,Bool.false_eq_true,if_false,if_true]
    have hst:=g.st0
    have hst1:=g.st1
    have hnext:F155L1 k m l n (w64 (c+1))=some (legE m.Step (some x) suf bs (c+1)):=by
     rw [w64_id (by omega) (by omega)]
     exact ih (pre++[x]) bs (bpre++[b]) n (c+1) (some x) (by simp [hl]) (by simp [hb]) (by simp;omega) (by omega) (by simp;omega) (by omega) (by simp) (fun q hq=>by simp at hq;subst hq;omega)
    rcases List.eq_nil_or_concat pre with rfl|⟨pre',q,rfl⟩
    ·have h0:decide (c>0)=false:=by simp at hc;simp [hc]
     simp at hp;subst hp
     simp only [h0,optG_false,Option.bind_some,cond_false,Bool.false_eq_true,if_false,hnext,early]
    ·simp only [List.concat_eq_append,List.length_append,List.length_cons,List.length_nil] at hc hlen hbp
     have h0:decide (c>0)=true:=by simp;omega
     have hp':prev=some q:=by rw [hp];simp
     have hqb:=hq q hp'
     subst hp'
     have hi:idx l (w64 (c-1))=some q:=by
      rw [w64_id (by omega) (by omega),hl,List.concat_eq_append,List.append_assoc]
      exact idx_mid (by omega)
     simp only [h0,optG_true,hi,Option.bind_some,cond_true]
     rw [w64_id (by omega) (by omega),hnext]
     by_cases hx2:x<q+m.Step<;>simp [hx2,early]
theorem e20L1 {k:Nat} (hk:20≤k) {m:Mp} (g:GoodM m) {l:List Int}:∀(suf pre:List Int) (bs bpre:List Sp) (n:Nat) (c:Int) (prev:Option Int),l=pre++suf→m.Borders=bpre++bs→bpre.length=pre.length→bs.length=suf.length→c=pre.length→suf.length<n →
 prev=pre.getLast? → (∀q,prev=some q→0≤q∧q≤9000)→F23L1 m l n c=some (legE m.Step prev suf bs c):=by
 intro suf
 induction suf with
 | nil =>
  intro pre bs bpre n c prev hl hb hbp hbs hc hn hp hq
  obtain ⟨n,rfl⟩:∃m,n=m+1:=⟨n-1,by simp at hn;omega⟩
  rw [F23L1,if_neg (by rw [hl];simp;omega)]
  cases bs<;>cases prev<;>rfl
 | cons x suf ih =>
  intro pre bs bpre n c prev hl hb hbp hbs hc hn hp hq
  obtain ⟨n,rfl⟩:∃m,n=m+1:=⟨n-1,by simp at hn;omega⟩
  cases bs with
  | nil=>simp at hbs
  | cons b bs =>
   have hb1:=g.b1
   have hbl:m.Borders.length=bpre.length+(bs.length+1):=by rw [hb];simp
   simp only [List.length_cons] at hn hbs
   have hlen:l.length=pre.length+(suf.length+1):=by rw [hl];simp
   have hib:idx m.Borders c=some b:=by rw [hb];exact idx_mid (by omega)
   have hix:idx l c=some x:=by rw [hl];exact idx_mid hc
   rw [F23L1,if_pos (by simp;omega),hix,Option.bind_some,hib,Option.bind_some,Option.bind_some,e61,Option.bind_some,legE_cons]
   have hg:=g.bor b (by rw [hb];simp)
   cases hx:okN b.Lo b.Hi x with
   | false=>rfl
   | true =>
    simp only [okN,Bool.and_eq_true,decide_eq_true_eq] at hx
    simp only [Bool.not_true,Bool.false_eq_true,if_false,if_true]
    have hst:=g.st0
    have hst1:=g.st1
    have hnext:F23L1 m l n (w64 (c+1))=some (legE m.Step (some x) suf bs (c+1)):=by
     rw [w64_id (by omega) (by omega)]
     exact ih (pre++[x]) bs (bpre++[b]) n (c+1) (some x) (by simp [hl]) (by simp [hb]) (by simp;omega) (by omega) (by simp;omega) (by omega) (by simp) (fun q hq=>by simp at hq;subst hq;omega)
    rcases List.eq_nil_or_concat pre with rfl|⟨pre',q,rfl⟩
    ·have h0:decide (c>0)=false:=by simp at hc;simp [hc]
     simp at hp;subst hp
     simp only [h0,optG_false,Option.bind_some,cond_false,Bool.false_eq_true,if_false,hnext,early]
    ·simp only [List.concat_eq_append,List.length_append,List.length_cons,List.length_nil] at hc hlen hbp
     have h0:decide (c>0)=true:=by simp;omega
     have hp':prev=some q:=by rw [hp];simp
     have hqb:=hq q hp'
     subst hp'
     have hi:idx l (w64 (c-1))=some q:=by
      rw [w64_id (by omega) (by omega),hl,List.concat_eq_append,List.append_assoc]
      exact idx_mid (by omega)
     simp only [h0,optG_true,hi,Option.bind_some,cond_true]
     rw [w64_id (by omega) (by omega),hnext]
     by_cases hx2:x<q+m.Step<;>simp [hx2,early]
theorem e19 {k:Nat} (hk:20≤k) {m:Mp} {l:List Int}:F155 k m l=some (chkLeg m l):=by
 unfold F155 chkLeg
 rw [e17 hk,Option.bind_some]
 cases h:(chk m).2.2 != 0 with
 | true=>rfl
 | false =>
  simp only [Bool.false_eq_true,if_false]
  have g:GoodM m:=chk_good.1 (by simpa using h)
  by_cases hl:l.length=m.Borders.length
  ·rw [if_neg (by simp [hl]),if_pos hl]
   rw [e19L1 hk g (l:=l) l [] m.Borders [] k 0 none rfl rfl rfl hl.symm rfl (by have:=g.b1;omega) rfl (fun q h=>by simp at h),Option.bind_some]
   cases legE m.Step none l m.Borders 0<;>rfl
  ·rw [if_pos (by simp;omega),if_neg hl]
theorem e20 {k:Nat} (hk:20≤k) {m:Mp} {l:List Int}:F23 k m l=some (chkLeg m l):=by
 unfold F23 chkLeg
 rw [e18 hk,Option.bind_some]
 cases h:(chk m).2.2 != 0 with
 | true =>
  have h2:((chk m).2.2==0)=false:=by simpa using h
  simp only [h2,cond_false,Bool.false_eq_true,if_false,Option.bind_some,outK_inr,h,if_true]
 | false =>
  have h0:(chk m).2.2=0:=by simpa using h
  have g:GoodM m:=chk_good.1 h0
  simp only [h0,beq_self_eq_true,cond_true,Bool.false_eq_true,if_false]
  by_cases hl:l.length=m.Borders.length
  ·have h1:((l.length:Int) != (m.Borders.length:Int))=false:=by simp [hl]
   simp only [h1,Bool.false_eq_true,if_false,Option.bind_some,outK_inr,bne_self_eq_false,if_pos hl]
   rw [e20L1 hk g (l:=l) l [] m.Borders [] k 0 none rfl rfl rfl hl.symm rfl (by have:=g.b1;omega) rfl (fun q h=>by simp at h),Option.bind_some]
   cases legE m.Step none l m.Borders 0<;>rfl
  ·have h1:((l.length:Int) != (m.Borders.length:Int))=true:=by simp;omega
   simp only [h1,if_true,Option.bind_some,outK_inr,if_neg hl]
   rfl

def band:List Int→Int→Nat
 | [],_=>0
 | x::xs,h=>if x≤h then band xs h+1 else 0
theorem band_le:∀(l:List Int) (h:Int),band l h≤l.length:=by
 intro l
 induction l with
 | nil=>intro h;simp [band]
 | cons x xs ih=>intro h;simp only [band];split<;>simp;exact ih h
theorem band_lt:∀(l:List Int) (h:Int) (i:Nat),i<band l h→l[i]! ≤ h:=by
 intro l
 induction l with
 | nil=>intro h i hi;simp [band] at hi
 | cons x xs ih =>
  intro h i hi
  simp only [band] at hi
  split at hi
  ·cases i with
   | zero=>simpa
   | succ i=>simpa using ih h i (by omega)
  ·omega
theorem band_at:∀(l:List Int) (h:Int),band l h<l.length→h<l[band l h]! := by
 intro l
 induction l with
 | nil=>intro h hi;simp [band] at hi
 | cons x xs ih =>
  intro h hi
  simp only [band] at hi ⊢
  split at hi
  ·rename_i hx
   rw [if_pos hx]
   simpa using ih h (by simpa using hi)
  ·rename_i hx
   rw [if_neg hx]
   simpa using Int.not_le.1 hx

def Inc (l:List Int):Prop:=∀i j:Nat,i<j→j<l.length→l[i]! < l[j]!
theorem band_is {l:List Int} (hi:Inc l) {h:Int} {n:Nat} (hn:n≤l.length) (h1:∀i,i<n→l[i]! ≤ h) (h2:n<l.length→h<l[n]!):band l h=n:=by
 rcases Nat.lt_trichotomy (band l h) n with hlt|he|hgt
 ·have:=band_at l h (by omega)
  have:=h1 _ hlt
  omega
 ·exact he
 ·have:=band_lt l h n hgt
  have:=h2 (by have:=band_le l h;omega)
  omega
theorem e83L1 {k:Nat} {l:List Int} {h:Int}:∀(suf pre:List Int) (n:Nat) (c:Int),l=pre++suf→c=pre.length→l.length<2^62→suf.length<n→F26L1 l h n c=some (.inr (c+band suf h)):=by
 intro suf
 induction suf with
 | nil =>
  intro pre n c hl hc h62 hn
  obtain ⟨n,rfl⟩:∃m,n=m+1:=⟨n-1,by simp at hn;omega⟩
  have h0:decide (c<(l.length:Int))=false:=by rw [hl];simp;omega
  rw [F26L1]
  simp only [h0,optG_false,Option.bind_some,cond_false,Bool.false_eq_true,if_false,band]
  congr 2;omega
 | cons x suf ih =>
  intro pre n c hl hc h62 hn
  obtain ⟨n,rfl⟩:∃m,n=m+1:=⟨n-1,by simp at hn;omega⟩
  have hlen:l.length=pre.length+(suf.length+1):=by rw [hl];simp
  simp only [List.length_cons] at hn
  have h0:decide (c<(l.length:Int))=true:=by simp;omega
  rw [F26L1]
  simp only [h0,optG_true,cond_true]
  rw [show idx l c=some x by rw [hl];exact idx_mid hc,Option.bind_some,band]
  by_cases hx:x≤h
  ·rw [if_pos (by simpa using hx),if_pos hx,w64_id (by omega) (by omega),ih (pre++[x]) n (c+1) (by simp [hl]) (by simp;omega) h62 (by omega)]
   congr 2;omega
  ·rw [if_neg (by simpa using hx),if_neg hx]
   congr 2;omega
theorem e83 {k:Nat} {l:List Int} {h:Int} (hk:l.length<k) (h62:l.length<2^62):F26 k l h=some (band l h:Int):=by
 unfold F26
 rw [e83L1 (k:=k) (l:=l) l [] k 0 rfl rfl h62 hk,Option.bind_some,outK_inr]
 simp
theorem e94 (a b:Int):F217 a b=some (decide (a<b)):=by
 unfold F217 F219
 simp
 rfl
theorem half {a:Int} (h0:0≤a) (h1:a≤2^62):(IntKind.i64.wrap ((IntKind.u64.wrap (w64 a)) / 2^min (1:Int).toNat 64))=a / 2:=by
 rw [w64_id (by omega) (by omega)]
 have e1:IntKind.u64.wrap a=a:=by
  show (if (false&&decide (a % (18446744073709551616:Int)≥9223372036854775808))=true then a % (18446744073709551616:Int)-18446744073709551616 else a % (18446744073709551616:Int))=a
  simp;omega
 rw [e1]
 have e2:(2:Int)^min (1:Int).toNat 64=2:=by decide
 rw [e2]
 exact w64_id (by omega) (by omega)
theorem e92L1 {l:List Int} {t:Int} (hi:Inc l) (h62:l.length<2^61) (n:Nat) (hn:l.length<n) :
 Ok (F193L1 l t n (0,(l.length:Int))) fun o=>∃i:Nat,o = .inr (i:Int)∧i≤l.length∧(∀j,j<i→l[j]! < t)∧∀j,i≤j→j<l.length→t≤l[j]! := by
 refine ok_loop (f:=F193L1 l t) (fun c=>∃a b:Nat,c=((a:Int),(b:Int))∧a≤b∧b≤l.length∧(∀j,j<a→l[j]! < t)∧∀j,b≤j→j<l.length→t≤l[j]!) (fun c=>(c.2-c.1).toNat) _ ?_ n _ ⟨0,l.length,rfl,by omega,by omega,fun j h=>by omega,fun j h h'=>by omega⟩ (by simp;omega)
 rintro n _ ⟨a,b,rfl,hab,hb,h1,h2⟩ ih
 rw [F193L1]
 by_cases hlt:a<b
 ·rw [if_pos (by simp;omega)]
  simp only
  rw [half (by omega) (by omega)]
  have hm:((a:Int)+b) / 2=(((a+b) / 2:Nat):Int):=by omega
  rw [hm,idx_nat (by omega),Option.bind_some,e94,Option.bind_some]
  have hma:a≤(a+b) / 2:=by omega
  have hmb:(a+b) / 2<b:=by omega
  by_cases hx:l[(a+b) / 2]! < t
  ·rw [if_pos (by simpa using hx),w64_id (by omega) (by omega)]
   refine ih _ ⟨(a+b) / 2+1,b,by simp,by omega,hb,fun j hj=>?_,h2⟩ (by simp;omega)
   rcases Nat.lt_or_ge j ((a+b) / 2) with h|h
   ·have:=hi j ((a+b) / 2) h (by omega);omega
   ·have:j=(a+b) / 2:=by omega
    subst this;exact hx
  ·rw [if_neg (by simpa using hx)]
   refine ih _ ⟨a,(a+b) / 2,rfl,by omega,by omega,h1,fun j hj hjl=>?_⟩ (by simp;omega)
   rcases Nat.lt_or_ge ((a+b) / 2) j with h|h
   ·have:=hi ((a+b) / 2) j h hjl;omega
   ·have:j=(a+b) / 2:=by omega
    subst this;omega
 ·rw [if_neg (by simp;omega)]
  exact ok_some.2 ⟨a,rfl,by omega,h1,fun j hj hjl=>h2 j (by omega) hjl⟩
theorem e82 {k:Nat} {l:List Int} (hi:Inc l) (hk:l.length<k) (h62:l.length<2^61) {t:Int} {b0:List Sp} {b1:Int} {b2:List Sp} {b3:List Pr} {b4:Int} {b5:List Pr} {b8:List Int} {a1:List Sp} :
 F156v1 k t b0 b1 b2 b3 b4 b5 l b8 a1=some (band l t:Int):=by
 unfold F156v1 F193
 obtain ⟨o,h1,i,rfl,h2,h3,h4⟩:=e92L1 (t:=t) hi h62 k hk
 rw [h1,Option.bind_some,outK_inr]
 by_cases hil:i<l.length
 ·have hd:decide ((i:Int)<(l.length:Int))=true:=by simpa using hil
  simp only [hd,optG_true,idx_nat hil,Option.bind_some,Bool.true_and,cond_true]
  by_cases hx:l[i]! = t
  ·have hb:(l[i]! == t)=true:=by simpa using hx
   simp only [hb,Bool.not_true,optG_false,Option.bind_some,Bool.false_and,cond_true,if_true]
   rw [w64_id (by omega) (by omega),band_is hi (n:=i+1) (by omega) (fun j hj=>?_) (fun h=>?_)]
   ·simp
   ·rcases Nat.lt_or_ge j i with h|h
    ·have:=h3 j h;omega
    ·have:j=i:=by omega
     subst this;omega
   ·have:=hi i (i+1) (by omega) h;omega
  ·have hb:(l[i]! == t)=false:=by simpa using hx
   have hF:∀a,F218 a=some false:=by intro a;unfold F218;simp
   simp only [hb,Bool.not_false,optG_true,Option.bind_some,hF,Bool.true_and,optG_false,cond_false,Bool.false_eq_true,if_false]
   rw [band_is hi (n:=i) (by omega) (fun j hj=>by have:=h3 j hj;omega) (fun h=>by have:=h4 i (Nat.le_refl _) h;omega)]
 ·have hd:decide ((i:Int)<(l.length:Int))=false:=by simp;omega
  simp only [hd,optG_false,Option.bind_some,Bool.false_and,cond_false,Bool.false_eq_true,if_false]
  rw [band_is hi (n:=i) (by omega) (fun j hj=>by have:=h3 j hj;omega) (fun h=>absurd h hil)]

def bandS (l:List Int) (s:Sp):Sp:=⟨band l s.Lo,band l s.Hi⟩
def alls (m:Mp) (l:List Int):List Sp:=m.Heights.map (bandS l)
theorem e64L1 {k:Nat} (hk:20≤k) {m:Mp} {l:List Int} (hi:Inc l) (hh:m.Heights.length≤8) (hl:l.length≤5):F90L1 k m l k (0,[])=some (.inr (alls m l)):=by
 have key:∀(suf pre:List Sp) (n:Nat) (c:Int),m.Heights=pre++suf→c=pre.length→suf.length<n→F90L1 k m l n (c,pre.map (bandS l))=some (.inr (alls m l)):=by
  intro suf
  induction suf with
  | nil =>
   intro pre n c hs hc hn
   obtain ⟨n,rfl⟩:∃m,n=m+1:=⟨n-1,by simp at hn;omega⟩
   rw [F90L1,if_neg (by rw [hs];simp;omega),alls,hs];simp
  | cons x suf ih =>
   intro pre n c hs hc hn
   obtain ⟨n,rfl⟩:∃m,n=m+1:=⟨n-1,by simp at hn;omega⟩
   have hlen:m.Heights.length=pre.length+(suf.length+1):=by rw [hs];simp
   simp only [List.length_cons] at hn
   have hix:idx m.Heights c=some x:=by rw [hs];exact idx_mid hc
   rw [F90L1,if_pos (by simp;omega)]
   simp only [hix,Option.bind_some]
   rw [e82 hi (by omega) (by omega),Option.bind_some,e82 hi (by omega) (by omega),Option.bind_some,need_true (by simp;omega),Option.bind_some,w64_id (by omega) (by omega)]
   have:=ih (pre++[x]) n (c+1) (by simp [hs]) (by simp;omega) (by omega)
   rw [List.map_append] at this
   exact this
 have:=key m.Heights [] k 0 rfl rfl (by omega)
 rw [List.map_nil] at this
 exact this

structure GoodL (m:Mp) (l:List Int):Prop where
 len:l.length=m.Borders.length
 inb:∀i:Nat,i<l.length→m.Borders[i]!.Lo≤l[i]! ∧ l[i]! ≤ m.Borders[i]!.Hi
 gap:∀i:Nat,i+1<l.length→l[i]! + m.Step≤l[i+1]!
theorem legE_good {step:Int}:∀(l:List Int) (bs:List Sp) (prev:Option Int) (i:Int),l.length=bs.length →
 ((∃u,legE step prev l bs i = .inr u)↔(∀j:Nat,j<l.length→bs[j]!.Lo≤l[j]! ∧ l[j]! ≤ bs[j]!.Hi)∧(∀j:Nat,j+1<l.length→l[j]! + step≤l[j+1]!)∧∀q,prev=some q→0<l.length→q+step≤l[0]!):=by
 intro l
 induction l with
 | nil=>intro bs prev i _;cases bs<;>simp [legE]
 | cons n ns ih =>
  intro bs prev i hl
  cases bs with
  | nil=>simp at hl
  | cons b bs =>
   rw [legE_cons]
   have hl':ns.length=bs.length:=by simpa using hl
   have hr:=ih bs (some n) (i+1) hl'
   cases hx:okN b.Lo b.Hi n with
   | false =>
    simp only [Bool.false_eq_true,if_false,reduceCtorEq,exists_false,false_iff]
    intro h
    have:=h.1 0 (by simp)
    simp only [okN,Bool.and_eq_false_iff,decide_eq_false_iff_not] at hx
    simp at this
    omega
   | true =>
    simp only [okN,Bool.and_eq_true,decide_eq_true_eq] at hx
    simp only [if_true]
    have hp:early step prev n=true↔¬∀q,prev=some q→q+step≤n:=by
     cases prev with
     | none=>simp [early]
     | some q=>simp [early]
    by_cases hq:∀q,prev=some q→q+step≤n
    ·rw [if_neg (fun h=>(hp.1 h) hq),hr]
     constructor
     ·rintro ⟨h1,h2,h3⟩
      refine ⟨fun j hj=>?_,fun j hj=>?_,fun q hq' _=>by simpa using hq q hq'⟩
      ·cases j with
       | zero=>simpa using hx
       | succ j=>simpa using h1 j (by simpa using hj)
      ·cases j with
       | zero=>have:=h3 n rfl (by simpa using hj);simpa using this
       | succ j=>simpa using h2 j (by simpa using hj)
     ·rintro ⟨h1,h2,h3⟩
      refine ⟨fun j hj=>by simpa using h1 (j+1) (by simpa using hj),fun j hj=>by simpa using h2 (j+1) (by simpa using hj),fun q hq' hpos=>?_⟩
      simp at hq';subst hq'
      simpa using h2 0 (by simpa using hpos)
    ·rw [if_pos (hp.2 hq)]
     simp only [reduceCtorEq,exists_false,false_iff]
     intro h
     exact hq fun q hq'=>by simpa using h.2.2 q hq' (by simp)
theorem chkLeg_good {m:Mp} {l:List Int}:(chkLeg m l).2=0↔GoodM m∧GoodL m l:=by
 unfold chkLeg
 cases h:(chk m).2.2 != 0 with
 | true =>
  have h1:(chk m).2.2≠0:=by simpa using h
  simp only [if_true]
  exact ⟨fun h2=>absurd h2 h1,fun h2=>absurd (chk_good.2 h2.1) h1⟩
 | false =>
  have g:GoodM m:=chk_good.1 (by simpa using h)
  simp only [Bool.false_eq_true,if_false]
  by_cases hl:l.length=m.Borders.length
  ·rw [if_pos hl]
   have hg:=legE_good (step:=m.Step) l m.Borders none 0 hl
   constructor
   ·intro h2
    refine ⟨g,?_⟩
    cases hE:legE m.Step none l m.Borders 0 with
    | inr u =>
     obtain ⟨h3,h4,_⟩:=hg.1 ⟨u,hE⟩
     exact ⟨hl,h3,h4⟩
    | inl p =>
     exfalso
     have hne:∀(l:List Int) (bs:List Sp) (prev:Option Int) (i:Int) p,legE m.Step prev l bs i = .inl p→p.2≠0:=by
      intro l
      induction l with
      | nil=>intro bs prev i p h;cases bs<;>simp [legE] at h
      | cons n ns ih =>
       intro bs prev i p h
       cases bs with
       | nil=>simp [legE] at h
       | cons b bs =>
        rw [legE_cons] at h
        split at h
        ·split at h
         ·simp at h;subst h;simp
         ·exact ih _ _ _ _ h
        ·simp at h;subst h;simp
     rw [hE] at h2
     exact hne _ _ _ _ _ hE h2
   ·rintro ⟨_,gl⟩
    obtain ⟨u,hu⟩:=hg.2 ⟨gl.inb,gl.gap,fun q h=>by simp at h⟩
    rw [hu];rfl
  ·rw [if_neg hl]
   exact ⟨fun h=>by simp at h,fun h=>absurd h.2.len hl⟩
theorem GoodL.inc {m:Mp} {l:List Int} (g:GoodM m) (h:GoodL m l):Inc l:=by
 intro i j hij hj
 induction j with
 | zero=>omega
 | succ j ih =>
  have:=h.gap j hj
  have:=g.st0
  rcases Nat.lt_or_ge i j with h1|h1
  ·have:=ih h1 (by omega);omega
  ·have:i=j:=by omega
   subst this;omega
theorem get_bang {v:List Int} {i:Nat} (h:i<v.length):v[i]? = some v[i]! := by
 rw [List.getElem?_eq_getElem h,getElem!_pos v i h]
theorem set_bang {v:List Int} {i:Nat} {x:Int} {k:Nat} (h:i<v.length):(v.set i x)[k]! = if k=i then x else v[k]! := by
 by_cases hk:k<v.length
 ·rw [getElem!_pos (v.set i x) k (by simpa using hk),getElem!_pos v k hk,List.getElem_set]
  by_cases e:i=k
  ·simp [e]
  ·rw [if_neg e,if_neg (fun h=>e h.symm)]
 ·rw [if_neg (by omega)]
  rw [getElem!_neg (v.set i x) k (by simpa using hk),getElem!_neg v k hk]

structure Vv (v0:List Int) (N:Int) (R:Nat→Nat→Prop) (v:List Int):Prop where
 len:v.length=42
 tl:∀i:Nat,36≤i→v[i]! = v0[i]!
 bd:∀i:Nat,i<36→0≤v[i]! ∧ v[i]! ≤ N
 pos:∀p q:Nat,p<6→q<6→(0<v[p*6+q]! ↔ R p q)
theorem Vv.congr {v0:List Int} {N N':Int} {R R':Nat→Nat→Prop} {v:List Int} (h:Vv v0 N R v) (hN:N≤N') (hR:∀p q:Nat,p<6→q<6→(R p q↔R' p q)):Vv v0 N' R' v :=
 ⟨h.len,h.tl,fun i hi=>by have:=h.bd i hi;omega,fun p q hp hq=>(h.pos p q hp hq).trans (hR p q hp hq)⟩
theorem e64r {v0 v:List Int} {N:Int} {R:Nat→Nat→Prop} (h:Vv v0 N R v) (hN:N≤2^40) {a b:Nat} (ha:a<6) (hb:b<6) (hab:a≠b) {b0:List Sp} {b1:Int} {b2:List Sp} {b3:List Pr} {b4:Int} {b5:List Pr} {b6:List Int} {a3:List Sp} :
 ∃v',F90r a b b0 b1 b2 b3 b4 b5 b6 v a3=some v'∧Vv v0 (N+1) (fun p q=>R p q∨(p=a∧q=b)∨(p=b∧q=a)) v':=by
 have hl:=h.len
 have hi:a*6+b<v.length:=by omega
 have hj:b*6+a<v.length:=by omega
 have hij:b*6+a≠a*6+b:=by omega
 have h1:=h.bd (a*6+b) (by omega)
 have h2:=h.bd (b*6+a) (by omega)
 refine ⟨(v.set (a*6+b) (v[a*6+b]! + 1)).set (b*6+a) (v[b*6+a]! + 1),?_,?_⟩
 ·unfold F90r
  have e1:need (0≤(a:Int)∧(a:Int)<6)=some ():=need_true (by omega)
  have e2:need (0≤(b:Int)∧(b:Int)<6)=some ():=need_true (by omega)
  have e3:v[a*6+b]? = some v[a*6+b]! := get_bang hi
  have e4:(v.set (a*6+b) (v[a*6+b]! + 1))[b*6+a]? = some v[b*6+a]! := by
   rw [get_bang (by simpa using hj),set_bang hi,if_neg hij]
  simp only [e1,e2,Option.bind_some,Int.toNat_natCast,Nat.zero_add,Nat.mul_one,e3]
  rw [w64_id (by omega) (by omega)]
  simp only [e4,Option.bind_some]
  rw [w64_id (by omega) (by omega)]
 ·have hg:∀k,((v.set (a*6+b) (v[a*6+b]! + 1)).set (b*6+a) (v[b*6+a]! + 1))[k]! = if k=b*6+a then v[b*6+a]! + 1 else if k=a*6+b then v[a*6+b]! + 1 else v[k]! := by
   intro k
   rw [set_bang (by simpa using hj)]
   split
   ·rfl
   ·rw [set_bang hi]
  refine ⟨by simpa using hl,fun i hi'=>?_,fun i hi'=>?_,fun p q hp hq=>?_⟩
  ·rw [hg,if_neg (by omega),if_neg (by omega)];exact h.tl i hi'
  ·rw [hg]
   have:=h.bd i hi'
   split
   ·omega
   ·split<;>omega
  ·rw [hg]
   have hpq:=h.pos p q hp hq
   by_cases k1:p=b∧q=a
   ·rw [if_pos (by obtain ⟨rfl,rfl⟩:=k1;rfl)]
    exact ⟨fun _ => .inr (.inr k1),fun _=>by omega⟩
   ·rw [if_neg (by omega)]
    by_cases k2:p=a∧q=b
    ·rw [if_pos (by obtain ⟨rfl,rfl⟩:=k2;rfl)]
     exact ⟨fun _ => .inr (.inl k2),fun _=>by omega⟩
    ·rw [if_neg (by omega),hpq]
     constructor
     ·exact .inl
     ·rintro (h|h|h)
      ·exact h
      ·exact absurd h k2
      ·exact absurd h k1
section
variable {b0:List Sp} {b1:Int} {b2:List Sp} {b3:List Pr} {b4:Int} {b5:List Pr} {b6:List Int} {a3:List Sp}

def two2 (a b p q:Nat):Prop:=a≠b∧((p=a∧q=b)∨(p=b∧q=a))
theorem e88L2 {v0 v:List Int} {N:Int} {R:Nat→Nat→Prop} (h:Vv v0 N R v) (hN:N≤2^30) {x1 x2:Sp} {a lo hi:Nat} {c4:Int×List Int} (hx:x1.Lo+c4.1=(a:Int)) (h1:x2.Lo=(lo:Int)) (h2:x2.Hi=(hi:Int)) (hlh:lo≤hi) (ha:a<6) (hh:hi<6) (n:Nat) (hn:10≤n) :
 Ok (F192L2 b0 b1 b2 b3 b4 b5 b6 a3 x1 x2 c4 n (0,v)) fun o=>∃v',o = .inr v'∧Vv v0 (N+6) (fun p q=>R p q∨∃b,lo≤b∧b≤hi∧two2 a b p q) v':=by
 refine ok_loop (f:=F192L2 b0 b1 b2 b3 b4 b5 b6 a3 x1 x2 c4) (fun c=>∃(y:Nat) (w:List Int),c=((y:Int),w)∧y≤hi+1-lo∧Vv v0 (N+y) (fun p q=>R p q∨∃b,lo≤b∧b<lo+y∧two2 a b p q) w) (fun c=>(6-c.1).toNat) _ ?_ n (0,v)
  ⟨0,v,rfl,by omega,h.congr (by omega) (fun p q _ _=>⟨.inl,fun h=>h.elim id (fun ⟨b,k1,k2,_⟩=>by omega)⟩)⟩ (by simp;omega)
 rintro n _ ⟨y,w,rfl,hy,hw⟩ ih
 rw [F192L2]
 have hM:w64 (w64 (x2.Hi-x2.Lo)+1)=(hi:Int)+1-lo:=by
  have e:w64 ((hi:Int)-lo)=(hi:Int)-lo:=w64_id (by omega) (by omega)
  rw [h1,h2,e,w64_id (by omega) (by omega)];omega
 rw [hM]
 by_cases hlt:y<hi+1-lo
 ·rw [if_pos (by simp;omega)]
  simp only
  have ea:w64 (x1.Lo+c4.1)=(a:Int):=by rw [hx];exact w64_id (by omega) (by omega)
  have eb:w64 (x2.Lo+(y:Int))=((lo+y:Nat):Int):=by rw [h1,w64_id (by omega) (by omega)];simp
  rw [ea,eb]
  by_cases hab:a=lo+y
  ·have hne:((a:Int) != ((lo+y:Nat):Int))=false:=by rw [hab];simp
   simp only [hne,optG_false,Option.bind_some,cond_false,Bool.false_eq_true,if_false]
   rw [w64_id (by omega) (by omega)]
   refine ih _ ⟨y+1,w,by simp,by omega,hw.congr (by simp;omega) (fun p q _ _=>?_)⟩ (by simp;omega)
   constructor
   ·rintro (k|⟨b,k1,k2,k3⟩)
    ·exact .inl k
    ·exact .inr ⟨b,k1,by omega,k3⟩
   ·rintro (k|⟨b,k1,k2,k3⟩)
    ·exact .inl k
    ·rcases Nat.lt_or_ge b (lo+y) with k4|k4
     ·exact .inr ⟨b,k1,k4,k3⟩
     ·exact absurd (show a=b by omega) k3.1
  ·have hne:((a:Int) != ((lo+y:Nat):Int))=true:=by simp;omega
   obtain ⟨w',e1,e2⟩:=e64r hw (by omega) ha (b:=lo+y) (by omega) hab (b0:=b0) (b1:=b1) (b2:=b2) (b3:=b3) (b4:=b4) (b5:=b5) (b6:=b6) (a3:=a3)
   simp only [hne,optG_true,e1,Option.bind_some,cond_true,Bool.false_eq_true,if_false]
   rw [w64_id (by omega) (by omega)]
   refine ih _ ⟨y+1,w',by simp,by omega,e2.congr (by simp;omega) (fun p q _ _=>?_)⟩ (by simp;omega)
   constructor
   ·rintro ((k|⟨b,k1,k2,k3⟩)|k)
    ·exact .inl k
    ·exact .inr ⟨b,k1,by omega,k3⟩
    ·exact .inr ⟨lo+y,by omega,by omega,hab,k⟩
   ·rintro (k|⟨b,k1,k2,k3⟩)
    ·exact .inl (.inl k)
    ·rcases Nat.lt_or_ge b (lo+y) with k4|k4
     ·exact .inl (.inr ⟨b,k1,k4,k3⟩)
     ·have:b=lo+y:=by omega
      subst this
      exact .inr k3.2
 ·rw [if_neg (by simp;omega)]
  refine ok_some.2 ⟨w,rfl,hw.congr (by omega) (fun p q _ _=>?_)⟩
  have:lo+y=hi+1:=by omega
  rw [this]
  constructor
  ·rintro (k|⟨b,k1,k2,k3⟩)
   ·exact .inl k
   ·exact .inr ⟨b,k1,by omega,k3⟩
  ·rintro (k|⟨b,k1,k2,k3⟩)
   ·exact .inl k
   ·exact .inr ⟨b,k1,by omega,k3⟩
end
section
variable {b0:List Sp} {b1:Int} {b2:List Sp} {b3:List Pr} {b4:Int} {b5:List Pr} {b6:List Int} {a3:List Sp}
theorem e88L1 {k:Nat} (hk:10≤k) {v0 v:List Int} {N:Int} {R:Nat→Nat→Prop} (h:Vv v0 N R v) (hN:N≤2^20) {x1 x2:Sp} {lo hi lo' hi':Nat} (h3:x1.Lo=(lo':Int)) (h4:x1.Hi=(hi':Int)) (h1:x2.Lo=(lo:Int)) (h2:x2.Hi=(hi:Int)) (hlh:lo≤hi) (hlh':lo'≤hi') (hh:hi<6) (hh':hi'<6) (n:Nat) (hn:10≤n) :
 Ok (F192L1 k b0 b1 b2 b3 b4 b5 b6 a3 x1 x2 n (0,v)) fun o=>∃v',o = .inr v'∧Vv v0 (N+36) (fun p q=>R p q∨∃a b,lo'≤a∧a≤hi'∧lo≤b∧b≤hi∧two2 a b p q) v':=by
 refine ok_loop (f:=F192L1 k b0 b1 b2 b3 b4 b5 b6 a3 x1 x2) (fun c=>∃(y:Nat) (w:List Int),c=((y:Int),w)∧y≤hi'+1-lo'∧Vv v0 (N+6*y) (fun p q=>R p q∨∃a b,lo'≤a∧a<lo'+y∧lo≤b∧b≤hi∧two2 a b p q) w) (fun c=>(6-c.1).toNat) _ ?_ n (0,v)
  ⟨0,v,rfl,by omega,h.congr (by omega) (fun p q _ _=>⟨.inl,fun h=>h.elim id (fun ⟨a,b,k1,k2,_⟩=>by omega)⟩)⟩ (by simp;omega)
 rintro n _ ⟨y,w,rfl,hy,hw⟩ ih
 rw [F192L1]
 have hM:w64 (w64 (x1.Hi-x1.Lo)+1)=(hi':Int)+1-lo':=by
  have e:w64 ((hi':Int)-lo')=(hi':Int)-lo':=w64_id (by omega) (by omega)
  rw [h3,h4,e,w64_id (by omega) (by omega)];omega
 rw [hM]
 by_cases hlt:y<hi'+1-lo'
 ·rw [if_pos (by simp;omega)]
  simp only
  obtain ⟨o,e1,w',rfl,e2⟩:=e88L2 (b0:=b0) (b1:=b1) (b2:=b2) (b3:=b3) (b4:=b4) (b5:=b5) (b6:=b6) (a3:=a3) hw (by omega) (x1:=x1) (x2:=x2) (a:=lo'+y) (c4:=((y:Int),w)) (by simp [h3]) h1 h2 hlh (by omega) hh k hk
  rw [e1,Option.bind_some,outK_inr,w64_id (by omega) (by omega)]
  refine ih _ ⟨y+1,w',by simp,by omega,e2.congr (by simp;omega) (fun p q _ _=>?_)⟩ (by simp;omega)
  constructor
  ·rintro ((k|⟨a,b,k1,k2,k3⟩)|⟨b,k1,k2,k3⟩)
   ·exact .inl k
   ·exact .inr ⟨a,b,k1,by omega,k3⟩
   ·exact .inr ⟨lo'+y,b,by omega,by omega,k1,k2,k3⟩
  ·rintro (k|⟨a,b,k1,k2,k3,k4,k5⟩)
   ·exact .inl (.inl k)
   ·rcases Nat.lt_or_ge a (lo'+y) with k6|k6
    ·exact .inl (.inr ⟨a,b,k1,k6,k3,k4,k5⟩)
    ·have:a=lo'+y:=by omega
     subst this
     exact .inr ⟨b,k3,k4,k5⟩
 ·rw [if_neg (by simp;omega)]
  refine ok_some.2 ⟨w,rfl,hw.congr (by omega) (fun p q _ _=>?_)⟩
  have:lo'+y=hi'+1:=by omega
  rw [this]
  constructor
  ·rintro (k|⟨a,b,k1,k2,k3⟩)
   ·exact .inl k
   ·exact .inr ⟨a,b,k1,by omega,k3⟩
  ·rintro (k|⟨a,b,k1,k2,k3⟩)
   ·exact .inl k
   ·exact .inr ⟨a,b,k1,by omega,k3⟩

def meetS (all:List Sp) (s:Pr) (p q:Nat):Prop:=∃a b:Nat,all[s.A.toNat]!.Lo≤a∧(a:Int)≤all[s.A.toNat]!.Hi∧all[s.B.toNat]!.Lo≤b∧(b:Int)≤all[s.B.toNat]!.Hi∧two2 a b p q

def BandsOk (all:List Sp):Prop:=∀i:Nat,i<all.length→0≤all[i]!.Lo∧all[i]!.Lo≤all[i]!.Hi∧all[i]!.Hi≤5
theorem e88 {k:Nat} (hk:10≤k) {v0 v:List Int} {N:Int} {R:Nat→Nat→Prop} (h:Vv v0 N R v) (hN:N≤2^20) {all:List Sp} (hall:BandsOk all) {s:Pr} (hA:0≤s.A∧s.A<all.length) (hB:0≤s.B∧s.B<all.length) :
 ∃v',F192 k b0 b1 b2 b3 b4 b5 b6 v all s.A s.B=some v'∧Vv v0 (N+36) (fun p q=>R p q∨meetS all s p q) v':=by
 unfold F192
 rw [idx_bang hA.1 hA.2,Option.bind_some,idx_bang hB.1 hB.2,Option.bind_some]
 have g1:=hall s.A.toNat (by omega)
 have g2:=hall s.B.toNat (by omega)
 obtain ⟨o,e1,w',rfl,e2⟩:=e88L1 (b0:=b0) (b1:=b1) (b2:=b2) (b3:=b3) (b4:=b4) (b5:=b5) (b6:=b6) (a3:=all) hk h hN (x1:=all[s.A.toNat]!) (x2:=all[s.B.toNat]!) (lo':=all[s.A.toNat]!.Lo.toNat) (hi':=all[s.A.toNat]!.Hi.toNat) (lo:=all[s.B.toNat]!.Lo.toNat) (hi:=all[s.B.toNat]!.Hi.toNat)
  (by omega) (by omega) (by omega) (by omega) (by omega) (by omega) (by omega) (by omega) k hk
 rw [e1,Option.bind_some,outK_inr]
 refine ⟨w',rfl,e2.congr (Int.le_refl _) (fun p q _ _=>?_)⟩
 constructor
 ·rintro (k|⟨a,b,k1,k2,k3,k4,k5⟩)
  ·exact .inl k
  ·exact .inr ⟨a,b,by omega,by omega,by omega,by omega,k5⟩
 ·rintro (k|⟨a,b,k1,k2,k3,k4,k5⟩)
  ·exact .inl k
  ·exact .inr ⟨a,b,by omega,by omega,by omega,by omega,k5⟩
end
theorem e64L2 {k:Nat} (hk:20≤k) {m:Mp} (g:GoodM m) {l:List Int} {all:List Sp} (hall:BandsOk all) (hlen:all.length=m.Heights.length) {v0:List Int} (h0:Vv v0 0 (fun _ _=>False) v0) :
 ∃v',F90L2 k m l all k (0,v0)=some (.inr v')∧Vv v0 360 (fun p q=>∃s∈m.Sides,meetS all s p q) v':=by
 have key:∀(suf pre:List Pr) (n:Nat) (c:Int) (v:List Int),m.Sides=pre++suf→c=pre.length→suf.length<n→Vv v0 (36*pre.length) (fun p q=>∃s∈pre,meetS all s p q) v →
  ∃v',F90L2 k m l all n (c,v)=some (.inr v')∧Vv v0 360 (fun p q=>∃s∈m.Sides,meetS all s p q) v':=by
  intro suf
  induction suf with
  | nil =>
   intro pre n c v hs hc hn hv
   obtain ⟨n,rfl⟩:∃m,n=m+1:=⟨n-1,by simp at hn;omega⟩
   rw [F90L2,if_neg (by rw [hs];simp;omega)]
   have e:m.Sides=pre:=by simpa using hs
   have:=g.s1
   exact ⟨v,rfl,hv.congr (by rw [←e];omega) (fun p q _ _=>by rw [e])⟩
  | cons s suf ih =>
   intro pre n c v hs hc hn hv
   obtain ⟨n,rfl⟩:∃m,n=m+1:=⟨n-1,by simp at hn;omega⟩
   have hl:m.Sides.length=pre.length+(suf.length+1):=by rw [hs];simp
   have:=g.s1
   simp only [List.length_cons] at hn
   have hix:idx m.Sides c=some s:=by rw [hs];exact idx_mid hc
   have hsd:=g.sid s (by rw [hs];simp)
   rw [F90L2,if_pos (by simp;omega)]
   simp only [hix,Option.bind_some]
   unfold F145
   simp only [Option.bind_some]
   obtain ⟨w,e1,e2⟩:=e88 (k:=k) (b0:=m.Borders) (b1:=m.Step) (b2:=m.Heights) (b3:=m.Sides) (b4:=m.Inks) (b5:=m.Like) (b6:=l) (by omega) hv (by omega) hall (s:=s) (by omega) (by omega)
   rw [e1,Option.bind_some,w64_id (by omega) (by omega)]
   refine ih (pre++[s]) n (c+1) w (by simp [hs]) (by simp;omega) (by omega) (e2.congr (by simp;omega) (fun p q _ _=>?_))
   simp only [List.mem_append,List.mem_singleton]
   constructor
   ·rintro (⟨t,h1,h2⟩|h)
    ·exact ⟨t,.inl h1,h2⟩
    ·exact ⟨s,.inr rfl,h⟩
   ·rintro ⟨t,h1|rfl,h2⟩
    ·exact .inl ⟨t,h1,h2⟩
    ·exact .inr h2
 exact key m.Sides [] k 0 v0 rfl rfl (by have:=g.s1;omega) (h0.congr (by simp) (fun p q _ _=>by simp))
theorem bits_or (a b:Nat) (ha:a<2^62) (hb:b<2^62):Go.bits .or .i64 (a:Int) (b:Int)=((a ||| b:Nat):Int):=by
 show w64 (((BitVec.ofInt 64 (a:Int) ||| BitVec.ofInt 64 (b:Int)).toNat:Nat):Int)=_
 have e:(BitVec.ofInt 64 (a:Int) ||| BitVec.ofInt 64 (b:Int)).toNat=a ||| b:=by
  rw [BitVec.toNat_or]
  simp only [BitVec.ofInt_natCast,BitVec.toNat_ofNat]
  rw [Nat.mod_eq_of_lt (by omega),Nat.mod_eq_of_lt (by omega)]
 rw [e]
 have:=Nat.or_lt_two_pow ha hb
 exact w64_id (by omega) (by omega)
theorem bits_and (a b:Nat) (ha:a<2^62) (hb:b<2^62):Go.bits .and .i64 (a:Int) (b:Int)=((a &&& b:Nat):Int):=by
 show w64 (((BitVec.ofInt 64 (a:Int) &&& BitVec.ofInt 64 (b:Int)).toNat:Nat):Int)=_
 have e:(BitVec.ofInt 64 (a:Int) &&& BitVec.ofInt 64 (b:Int)).toNat=a &&& b:=by
  rw [BitVec.toNat_and]
  simp only [BitVec.ofInt_natCast,BitVec.toNat_ofNat]
  rw [Nat.mod_eq_of_lt (by omega),Nat.mod_eq_of_lt (by omega)]
 rw [e]
 have:=Nat.and_lt_two_pow (x:=a) (y:=b) (n:=62) hb
 exact w64_id (by omega) (by omega)
theorem shl1 (i:Nat) (hi:i<6):w64 ((1:Int)*2^min (i:Int).toNat 64)=((2^i:Nat):Int):=by
 rw [Int.toNat_natCast,Nat.min_eq_left (by omega)]
 match i,hi with
 | 0,_=>decide
 | 1,_=>decide
 | 2,_=>decide
 | 3,_=>decide
 | 4,_=>decide
 | 5,_=>decide

structure Lk (v1:List Int) (S:Nat→Nat→Prop) (v:List Int):Prop where
 len:v.length=42
 hd:∀i:Nat,i<36→v[i]! = v1[i]!
 bit:∀p:Nat,p<6→∃n:Nat,v[36+p]! = (n:Int)∧n<2^6∧∀q:Nat,n.testBit q=true↔S p q
theorem Lk.set {v1 v:List Int} {S:Nat→Nat→Prop} (h:Lk v1 S v) {p:Nat} (hp:p<6) {n:Nat} (hn:n<2^6) {S':Nat→Nat→Prop} (hs:∀q,n.testBit q=true↔S' p q) (ho:∀p' q,p'≠p→(S p' q↔S' p' q)):Lk v1 S' (v.set (36+p) (n:Int)):=by
 have hl:=h.len
 refine ⟨by simpa using hl,fun i hi=>?_,fun p' hp'=>?_⟩
 ·rw [set_bang (by omega),if_neg (by omega)];exact h.hd i hi
 ·rw [set_bang (by omega)]
  by_cases e:p'=p
  ·subst e
   rw [if_pos rfl]
   exact ⟨n,rfl,hn,hs⟩
  ·rw [if_neg (by omega)]
   obtain ⟨k,k1,k2,k3⟩:=h.bit p' hp'
   exact ⟨k,k1,k2,fun q=>(k3 q).trans (ho p' q e)⟩
theorem e64L3 {m:Mp} (g:GoodM m) {v1 v:List Int} (h:Lk v1 (fun _ _=>False) v) {n:Nat} (hn:10≤n) :
 Ok (F90L3 m n (0,v)) fun o=>∃w,o = .inr w∧Lk v1 (fun p q=>p=q∧(p:Int)<m.Inks) w:=by
 have hi0:=g.i0
 have hi1:=g.i1
 refine ok_loop (f:=F90L3 m) (fun c=>∃(i:Nat) (w:List Int),c=((i:Int),w)∧(i:Int)≤m.Inks∧Lk v1 (fun p q=>p=q∧p<i) w) (fun c=>(6-c.1).toNat) _ ?_ n (0,v) ⟨0,v,rfl,by omega,⟨h.len,h.hd,fun p hp=>?_⟩⟩ (by simp;omega)
 ·rintro n _ ⟨i,w,rfl,hi,hw⟩ ih
  rw [F90L3]
  by_cases hlt:(i:Int)<m.Inks
  ·rw [if_pos (by simpa using hlt)]
   simp only
   have hl:=hw.len
   rw [need_true (by omega),Option.bind_some,need_true (by omega),Option.bind_some,shl1 i (by omega)]
   simp only [Int.toNat_natCast,Nat.mul_one]
   rw [get_bang (by omega),Option.bind_some,w64_id (by omega) (by omega)]
   refine ih _ ⟨i+1,w.set (36+i) ((2^i:Nat):Int),by simp,by omega,hw.set (p:=i) (by omega) (n:=2^i) (Nat.pow_lt_pow_right (by omega) (by omega)) (fun q=>?_) (fun p q hp=>?_)⟩ (by simp;omega)
   ·rw [Nat.testBit_two_pow];simp
   ·constructor
    ·rintro ⟨h1,h2⟩;exact ⟨h1,by omega⟩
    ·rintro ⟨h1,h2⟩;exact ⟨h1,by omega⟩
  ·rw [if_neg (by simpa using hlt)]
   refine ok_some.2 ⟨w,rfl,⟨hw.len,hw.hd,fun p hp=>?_⟩⟩
   obtain ⟨k,k1,k2,k3⟩:=hw.bit p hp
   exact ⟨k,k1,k2,fun q=>(k3 q).trans ⟨fun ⟨a,b⟩=>⟨a,by omega⟩,fun ⟨a,b⟩=>⟨a,by omega⟩⟩⟩
 ·obtain ⟨k,k1,k2,k3⟩:=h.bit p hp
  exact ⟨k,k1,k2,fun q=>(k3 q).trans ⟨fun h=>h.elim,fun h=>by omega⟩⟩

def likeP (ps:List Pr) (a b:Nat):Prop:=∃p∈ps,(p.A=a∧p.B=b)∨(p.A=b∧p.B=a)
def likeM (m:Mp) (ps:List Pr) (a b:Nat):Prop:=(a=b∧(a:Int)<m.Inks)∨likeP ps a b
theorem e64L4 {m:Mp} (g:GoodM m) {v1:List Int}:∀(suf pre:List Pr) (n:Nat) (c:Int) (v:List Int),m.Like=pre++suf→c=pre.length→suf.length<n→Lk v1 (likeM m pre) v →
 ∃w,F90L4 m n (c,v)=some (.inr w)∧Lk v1 (likeM m m.Like) w:=by
 intro suf
 induction suf with
 | nil =>
  intro pre n c v hs hc hn hv
  obtain ⟨n,rfl⟩:∃m,n=m+1:=⟨n-1,by simp at hn;omega⟩
  rw [F90L4,if_neg (by rw [hs];simp;omega)]
  have e:m.Like=pre:=by simpa using hs
  rw [e]
  exact ⟨v,rfl,hv⟩
 | cons s suf ih =>
  intro pre n c v hs hc hn hv
  obtain ⟨n,rfl⟩:∃m,n=m+1:=⟨n-1,by simp at hn;omega⟩
  have hl:m.Like.length=pre.length+(suf.length+1):=by rw [hs];simp
  have:=g.l1
  have hi1:=g.i1
  simp only [List.length_cons] at hn
  have hix:idx m.Like c=some s:=by rw [hs];exact idx_mid hc
  have hsd:=g.lik s (by rw [hs];simp)
  rw [F90L4,if_pos (by simp;omega)]
  simp only [hix,Option.bind_some]
  obtain ⟨a,hA⟩:∃a:Nat,s.A=(a:Int):=⟨s.A.toNat,by omega⟩
  obtain ⟨b,hB⟩:∃b:Nat,s.B=(b:Int):=⟨s.B.toNat,by omega⟩
  rw [hA,hB] at hsd
  have ha:a<6:=by omega
  have hb:b<6:=by omega
  have hab:a≠b:=fun e=>hsd.2.2 (by rw [e])
  have hlen:=hv.len
  obtain ⟨x,x1,x2,x3⟩:=hv.bit a ha
  obtain ⟨y,y1,y2,y3⟩:=hv.bit b hb
  have e1:need (0≤(a:Int)∧(a:Int)<6)=some ():=need_true (by omega)
  have e2:need (0≤(b:Int)∧(b:Int)<6)=some ():=need_true (by omega)
  have e3:need (0≤(a:Int))=some ():=need_true (by omega)
  have e4:need (0≤(b:Int))=some ():=need_true (by omega)
  have h2a:2^a<2^6:=Nat.pow_lt_pow_right (by omega) (by omega)
  have h2b:2^b<2^6:=Nat.pow_lt_pow_right (by omega) (by omega)
  have hor1:=Nat.or_lt_two_pow x2 h2b
  have hor2:=Nat.or_lt_two_pow y2 h2a
  simp only [hA,hB,e1,e2,e3,e4,Option.bind_some,shl1 a ha,shl1 b hb]
  simp only [Int.toNat_natCast,Nat.mul_one]
  have e5:v[36+a]? = some (x:Int):=by rw [get_bang (by omega),x1]
  simp only [e5,Option.bind_some]
  rw [bits_or x (2^b) (by omega) (by omega)]
  have e6:(v.set (36+a) ((x ||| 2^b:Nat):Int))[36+b]? = some (y:Int):=by
   rw [get_bang (by simp;omega),set_bang (by omega),if_neg (by omega),y1]
  simp only [e6,Option.bind_some]
  rw [bits_or y (2^a) (by omega) (by omega),w64_id (by omega) (by omega)]
  refine ih (pre++[s]) n (c+1) _ (by simp [hs]) (by simp;omega) (by omega) ?_
  have s1:=hv.set (p:=a) ha (n:=x ||| 2^b) hor1 (S':=fun p q=>likeM m pre p q∨(p=a∧q=b)) (fun q=>by
   rw [Nat.testBit_or,Bool.or_eq_true,x3 q,Nat.testBit_two_pow]
   simp only [decide_eq_true_eq,true_and]
   constructor
   ·rintro (h|h)
    ·exact .inl h
    ·exact .inr h.symm
   ·rintro (h|h)
    ·exact .inl h
    ·exact .inr h.symm) (fun p q hp=>⟨.inl,fun h=>h.elim id (fun h=>absurd h.1 hp)⟩)
  have s2:=s1.set (p:=b) hb (n:=y ||| 2^a) hor2 (S':=likeM m (pre++[s])) (fun q=>by
   rw [Nat.testBit_or,Bool.or_eq_true,y3 q,Nat.testBit_two_pow]
   simp only [decide_eq_true_eq]
   unfold likeM likeP
   constructor
   ·rintro ((h|⟨t,h1,h2⟩)|h)
    ·exact .inl h
    ·exact .inr ⟨t,by simp [h1],h2⟩
    ·exact .inr ⟨s,by simp,.inr ⟨by rw [hA,h],hB⟩⟩
   ·rintro (h|⟨t,h1,h2⟩)
    ·exact .inl (.inl h)
    ·rcases List.mem_append.1 h1 with h1|h1
     ·exact .inl (.inr ⟨t,h1,h2⟩)
     ·have:t=s:=by simpa using h1
      subst this
      rcases h2 with ⟨k1,k2⟩|⟨k1,k2⟩
      ·exact absurd (show a=b by omega) hab
      ·exact .inr (by omega)) (fun p q hp=>by
   unfold likeM likeP
   constructor
   ·rintro ((h|⟨t,h1,h2⟩)|⟨rfl,rfl⟩)
    ·exact .inl h
    ·exact .inr ⟨t,by simp [h1],h2⟩
    ·exact .inr ⟨s,by simp,.inl ⟨hA,hB⟩⟩
   ·rintro (h|⟨t,h1,h2⟩)
    ·exact .inl (.inl h)
    ·rcases List.mem_append.1 h1 with h1|h1
     ·exact .inl (.inr ⟨t,h1,h2⟩)
     ·have:t=s:=by simpa using h1
      subst this
      rcases h2 with ⟨k1,k2⟩|⟨k1,k2⟩
      ·exact .inr (by omega)
      ·exact absurd (show p=b by omega) hp)
  exact s2
theorem band_mono:∀(l:List Int) {a b:Int},a≤b→band l a≤band l b:=by
 intro l
 induction l with
 | nil=>intro a b _;simp [band]
 | cons x xs ih =>
  intro a b h
  simp only [band]
  split
  ·rw [if_pos (by omega)]
   have:=ih h
   omega
  ·omega
theorem alls_ok {m:Mp} {l:List Int} (g:GoodM m) (gl:GoodL m l):BandsOk (alls m l):=by
 intro i hi
 have hi':i<m.Heights.length:=by simpa [alls] using hi
 have e:(alls m l)[i]! = bandS l m.Heights[i]! := by
  rw [getElem!_pos _ i hi,getElem!_pos _ i hi'];simp [alls]
 have hs:=g.hei m.Heights[i]! (by rw [getElem!_pos _ i hi'];exact List.getElem_mem _)
 have h1:=band_mono l hs.2.1
 have h2:=band_le l m.Heights[i]!.Hi
 have:=g.b1
 have:=gl.len
 rw [e]
 simp only [bandS]
 omega

structure ChartOk (m:Mp) (l:List Int) (v:List Int):Prop where
 len:v.length=42
 pos:∀p q:Nat,p<6→q<6→(0<v[p*6+q]! ↔ ∃s∈m.Sides,meetS (alls m l) s p q)
 bit:∀p:Nat,p<6→∃n:Nat,v[36+p]! = (n:Int)∧n<2^6∧∀q:Nat,n.testBit q=true↔likeM m m.Like p q
theorem rep_bang (i:Nat):(List.replicate 42 (0:Int))[i]! = 0:=by
 by_cases h:i<42
 ·rw [getElem!_pos _ i (by rw [List.length_replicate];exact h)];exact List.getElem_replicate ..
 ·rw [getElem!_neg _ i (by rw [List.length_replicate];exact h)];rfl
theorem e64_bad {k:Nat} (hk:20≤k) {m:Mp} {l:List Int} (h:(chkLeg m l).2≠0):F90 k m l=some (none,(chkLeg m l).2):=by
 unfold F90
 rw [e19 hk,Option.bind_some,if_pos (by simpa using h)]
theorem e64 {k:Nat} (hk:20≤k) {m:Mp} {l:List Int} (g:GoodM m) (gl:GoodL m l):∃v,F90 k m l=some (some ⟨m,l,alls m l,v⟩,0)∧ChartOk m l v:=by
 have h0:(chkLeg m l).2=0:=chkLeg_good.2 ⟨g,gl⟩
 have hl:l.length≤5:=by have:=g.b1;have:=gl.len;omega
 unfold F90
 rw [e19 hk,Option.bind_some,if_neg (by simp [h0]),e64L1 hk (gl.inc g) g.h1 hl,Option.bind_some,outK_inr]
 have hv0:Vv (List.replicate 42 0) 0 (fun _ _=>False) (List.replicate 42 0):=⟨by simp,fun _ _=>rfl,fun i _=>by rw [rep_bang];omega,fun p q _ _=>by rw [rep_bang];simp⟩
 obtain ⟨v1,e1,h1⟩:=e64L2 hk g (l:=l) (alls_ok g gl) (by simp [alls]) hv0
 rw [e1,Option.bind_some,outK_inr]
 have hl1:Lk v1 (fun _ _=>False) v1:=⟨h1.len,fun _ _=>rfl,fun p hp=>⟨0,by rw [h1.tl _ (by omega),rep_bang];rfl,by decide,fun q=>by simp⟩⟩
 obtain ⟨o,e2,v2,rfl,h2⟩:=e64L3 g hl1 (n:=k) (by omega)
 rw [e2,Option.bind_some,outK_inr]
 obtain ⟨v3,e3,h3⟩:=e64L4 g (v1:=v1) m.Like [] k 0 v2 rfl rfl (by have:=g.l1;omega) ⟨h2.len,h2.hd,fun p hp=>by
  obtain ⟨n,k1,k2,k3⟩:=h2.bit p hp
  exact ⟨n,k1,k2,fun q=>(k3 q).trans ⟨.inl,fun h=>h.elim id (fun ⟨t,h,_⟩=>by simp at h)⟩⟩⟩
 rw [e3,Option.bind_some,outK_inr]
 exact ⟨v3,rfl,⟨h3.len,fun p q hp hq=>by rw [h3.hd _ (by omega)];exact h1.pos p q hp hq,h3.bit⟩⟩

theorem e21 {k:Nat} (hk:20≤k) {m:Mp} {l:List Int}:F24 k m l=some (if (chkLeg m l).2=0 then (alls m l,0) else ([],(chkLeg m l).2)):=by
 unfold F24
 by_cases h:(chkLeg m l).2=0
 ·obtain ⟨g,gl⟩:=chkLeg_good.1 h
  obtain ⟨v,e,_⟩:=e64 hk g gl
  rw [e,if_pos h];rfl
 ·rw [e64_bad hk h,if_neg h,Option.bind_some,if_pos (by simpa using h)]

def doubt:List Sp→Int→List Int
 | [],_=>[]
 | s::ss,i=>if s.Lo<s.Hi then i::doubt ss (i+1) else doubt ss (i+1)
theorem doubt_len:∀(l:List Sp) (i:Int),(doubt l i).length≤l.length:=by
 intro l
 induction l with
 | nil=>intro i;simp [doubt]
 | cons s ss ih=>intro i;simp only [doubt];have:=ih (i+1);split<;>simp<;>omega
theorem e24L1 {x:S_colour_chart} (h8:x.bands.length≤8) (hb:∀s∈x.bands,s.Lo≤s.Hi):∀(suf pre:List Sp) (n:Nat) (c:Int) (acc:List Int),x.bands=pre++suf→c=pre.length→suf.length<n→acc.length≤pre.length→F25L1 x n (c,acc)=some (.inr (acc++doubt suf c)):=by
 intro suf
 induction suf with
 | nil =>
  intro pre n c acc hl hc hn ha
  obtain ⟨n,rfl⟩:∃m,n=m+1:=⟨n-1,by simp at hn;omega⟩
  rw [F25L1,if_neg (by rw [hl];simp;omega)];simp [doubt]
 | cons s suf ih =>
  intro pre n c acc hl hc hn ha
  obtain ⟨n,rfl⟩:∃m,n=m+1:=⟨n-1,by simp at hn;omega⟩
  have hlen:x.bands.length=pre.length+(suf.length+1):=by rw [hl];simp
  simp only [List.length_cons] at hn
  have hix:idx x.bands c=some s:=by rw [hl];exact idx_mid hc
  have hs:=hb s (by rw [hl];simp)
  rw [F25L1,if_pos (by simp;omega)]
  simp only [hix,Option.bind_some,doubt]
  by_cases h:s.Lo<s.Hi
  ·rw [if_pos (by simp;omega),if_pos h,need_true (by simp;omega),Option.bind_some,w64_id (by omega) (by omega),ih (pre++[s]) n (c+1) _ (by simp [hl]) (by simp;omega) (by omega) (by simp;omega)]
   simp
  ·rw [if_neg (by simp;omega),if_neg h,w64_id (by omega) (by omega),ih (pre++[s]) n (c+1) _ (by simp [hl]) (by simp;omega) (by omega) (by simp;omega)]
theorem alls_le {m:Mp} {l:List Int} (g:GoodM m):∀s∈alls m l,s.Lo≤s.Hi:=by
 intro s hs
 simp only [alls,List.mem_map] at hs
 obtain ⟨t,ht,rfl⟩:=hs
 have:=band_mono l (g.hei t ht).2.1
 simp only [bandS];omega
def unsure (m:Mp) (l:List Int):List Int×Int:=if (chkLeg m l).2=0 then (doubt (alls m l) 0,0) else ([],(chkLeg m l).2)
theorem e24 {k:Nat} (hk:20≤k) {m:Mp} {l:List Int}:F25 k m l=some (unsure m l):=by
 unfold F25 unsure
 by_cases h:(chkLeg m l).2=0
 ·obtain ⟨g,gl⟩:=chkLeg_good.1 h
  obtain ⟨v,e,_⟩:=e64 hk g gl
  have h8:(alls m l).length≤8:=by have:=g.h1;simpa [alls] using this
  rw [e,if_pos h,Option.bind_some,if_neg (by simp),Option.bind_some,e24L1 h8 (alls_le g) (alls m l) [] k 0 [] rfl rfl (by omega) (by simp),Option.bind_some,outK_inr]
  rfl
 ·rw [e64_bad hk h,if_neg h,Option.bind_some,if_pos (by simpa using h)]

def besideB (all:List Sp) (s:Pr) (a b:Int):Bool :=
 (okN all[s.A.toNat]!.Lo all[s.A.toNat]!.Hi a&&okN all[s.B.toNat]!.Lo all[s.B.toNat]!.Hi b)||(okN all[s.A.toNat]!.Lo all[s.A.toNat]!.Hi b&&okN all[s.B.toNat]!.Lo all[s.B.toNat]!.Hi a)
theorem meetS_beside {all:List Sp} {s:Pr} {p q:Nat} (h:p≠q):meetS all s p q↔besideB all s p q=true:=by
 unfold meetS besideB two2 okN
 simp only [Bool.or_eq_true,Bool.and_eq_true,decide_eq_true_eq]
 constructor
 ·rintro ⟨a,b,h1,h2,h3,h4,h5,⟨rfl,rfl⟩|⟨rfl,rfl⟩⟩
  ·exact .inl ⟨⟨h1,h2⟩,h3,h4⟩
  ·exact .inr ⟨⟨h1,h2⟩,h3,h4⟩
 ·rintro (⟨⟨h1,h2⟩,h3,h4⟩|⟨⟨h1,h2⟩,h3,h4⟩)
  ·exact ⟨p,q,h1,h2,h3,h4,h,.inl ⟨rfl,rfl⟩⟩
  ·exact ⟨q,p,h1,h2,h3,h4,fun e=>h e.symm,.inr ⟨rfl,rfl⟩⟩

def metB (m:Mp) (l:List Int) (a b:Int):Bool:=m.Sides.any fun s=>besideB (alls m l) s a b
theorem chart_met {m:Mp} {l v:List Int} (h:ChartOk m l v) {p q:Nat} (hp:p<6) (hq:q<6) (hpq:p≠q):0<v[p*6+q]! ↔ metB m l p q=true:=by
 rw [h.pos p q hp hq,metB,List.any_eq_true]
 exact exists_congr fun s=>and_congr_right fun _=>meetS_beside hpq

def rowM (P:Int→Bool) (a:Int):Nat→Int→List Pr
 | 0,_=>[]
 | n+1,b=>if P b then ⟨a,b⟩::rowM P a n (b+1) else rowM P a n (b+1)

def metM (m:Mp) (l:List Int):Nat→Int→List Pr
 | 0,_=>[]
 | n+1,a=>rowM (metB m l a) a (l.length-a.toNat) (a+1)++metM m l n (a+1)
def cntG:List Int→List Int→Nat
 | _,[]=>0
 | s,x::xs=>(if s.contains x then 0 else 1)+cntG (s++[x]) xs
def cnt (l:List Int):Nat:=cntG [] l
theorem cntG_append:∀(a b s:List Int),cntG s (a++b)=cntG s a+cntG (s++a) b:=by
 intro a
 induction a with
 | nil=>intro b s;simp [cntG]
 | cons x xs ih =>
  intro b s
  rw [List.cons_append,cntG,cntG,ih,List.append_assoc,List.singleton_append]
  omega
theorem cnt_snoc (l:List Int) (x:Int):cnt (l++[x])=cnt l+if l.contains x then 0 else 1:=by
 rw [cnt,cntG_append,List.nil_append,cntG,cntG];rfl
theorem cnt_le (a b:List Int):cnt a≤cnt (a++b):=by rw [cnt,cnt,cntG_append];omega
def mrg (acc x:List Int):List Int:=if x=[] then acc else if acc=[] then x else if cnt x<cnt acc then x else acc
theorem mrg_nil (a:List Int):mrg a []=a:=if_pos rfl
theorem nil_mrg (a:List Int):mrg [] a=a:=by
 unfold mrg
 by_cases h:a=[]
 ·rw [if_pos h,h]
 ·rw [if_neg h,if_pos rfl]
theorem mrg_lt {a x:List Int} (hx:x≠[]) (h:a=[]∨cnt x<cnt a):mrg a x=x:=by
 unfold mrg
 rw [if_neg hx]
 by_cases ha:a=[]
 ·rw [if_pos ha]
 ·rw [if_neg ha,if_pos (h.resolve_left ha)]
theorem mrg_ge {a x:List Int} (ha:a≠[]) (h:x=[]∨cnt a≤cnt x):mrg a x=a:=by
 unfold mrg
 by_cases hx:x=[]
 ·rw [if_pos hx]
 ·rw [if_neg hx,if_neg ha,if_neg (by have:=h.resolve_left hx;omega)]
theorem mrg_assoc (a b c:List Int):mrg (mrg a b) c=mrg a (mrg b c):=by
 by_cases hb:b=[]
 ·subst hb;rw [mrg_nil,nil_mrg]
 by_cases ha:a=[]
 ·subst ha;rw [nil_mrg,nil_mrg]
 by_cases hc:c=[]
 ·subst hc;rw [mrg_nil,mrg_nil]
 by_cases h1:cnt b<cnt a
 ·rw [mrg_lt hb (.inr h1)]
  by_cases h2:cnt c<cnt b
  ·rw [mrg_lt hc (.inr h2),mrg_lt hc (.inr (by omega))]
  ·rw [mrg_ge hb (.inr (by omega)),mrg_lt hb (.inr h1)]
 ·rw [mrg_ge ha (.inr (by omega))]
  by_cases h2:cnt c<cnt b
  ·rw [mrg_lt hc (.inr h2)]
  ·rw [mrg_ge hb (.inr (by omega)),mrg_ge ha (.inr (by omega)),mrg_ge ha (.inr (by omega))]
def srchK (f:Int→List Int):Nat→Int→List Int→List Int
 | 0,_,acc=>acc
 | d+1,i,acc=>srchK f d (i+1) (mrg acc (f i))
theorem srchK_mrg {f:Int→List Int}:∀(d:Nat) (i:Int) (a b:List Int),srchK f d i (mrg a b)=mrg a (srchK f d i b):=by
 intro d
 induction d with
 | zero=>intro i a b;rfl
 | succ d ih=>intro i a b;rw [srchK,srchK,mrg_assoc,ih]
theorem srchK_ind {f:Int→List Int} {P:List Int→Prop} (hm:∀a b,P a→P b→P (mrg a b)):∀(d:Nat) (i:Int) (a:List Int),P a→(∀j:Nat,j<d→P (f (i+j)))→P (srchK f d i a):=by
 intro d
 induction d with
 | zero=>intro i a h _;exact h
 | succ d ih =>
  intro i a h hf
  rw [srchK]
  refine ih _ _ (hm _ _ h (by simpa using hf 0 (by omega))) fun j hj=>?_
  have:=hf (j+1) (by omega)
  rwa [show i+((j+1:Nat):Int)=i+1+(j:Int) from by omega] at this
theorem mrg_or (a b:List Int):mrg a b=a∨mrg a b=b:=by
 unfold mrg
 by_cases h1:b=[]
 ·rw [if_pos h1];exact .inl rfl
 ·rw [if_neg h1]
  by_cases h2:a=[]
  ·rw [if_pos h2];exact .inr rfl
  ·rw [if_neg h2]
   by_cases h3:cnt b<cnt a
   ·rw [if_pos h3];exact .inr rfl
   ·rw [if_neg h3];exact .inl rfl
def srch (fine:List Int→Int→Bool) (K:Nat):Nat→List Int→List Int
 | 0,pre=>pre
 | n+1,pre=>srchK (fun i=>if fine pre i then srch fine K n (pre++[i]) else []) K 0 []
theorem srch_ext {fine:List Int→Int→Bool} {K:Nat}:∀(n:Nat) (pre:List Int),srch fine K n pre=[]∨∃r,srch fine K n pre=pre++r∧r.length=n:=by
 intro n
 induction n with
 | zero=>intro pre;exact .inr ⟨[],by simp [srch],rfl⟩
 | succ n ih =>
  intro pre
  rw [srch]
  refine srchK_ind (P:=fun x=>x=[]∨∃r,x=pre++r∧r.length=n+1) (fun a b ha hb=>(mrg_or a b).elim (fun h=>by rw [h];exact ha) (fun h=>by rw [h];exact hb)) K 0 [] (.inl rfl) fun j _=>?_
  by_cases h:fine pre (0+j)=true
  ·rw [if_pos h]
   rcases ih (pre++[0+(j:Int)]) with h1|⟨r,h1,h2⟩
   ·exact .inl h1
   ·exact .inr ⟨(0+(j:Int))::r,by rw [h1,List.append_assoc];rfl,by simp [h2]⟩
  ·rw [if_neg h];exact .inl rfl
theorem srch_prune {fine:List Int→Int→Bool} {K n:Nat} {pre acc:List Int} (ha:acc≠[]) (h:cnt acc≤cnt pre):mrg acc (srch fine K n pre)=acc:=by
 rcases srch_ext (fine:=fine) (K:=K) n pre with h1|⟨r,h1,_⟩
 ·exact mrg_ge ha (.inl h1)
 ·refine mrg_ge ha (.inr ?_)
  rw [h1]
  have:=cnt_le pre r
  omega

def likeB (m:Mp) (a b:Int):Bool:=(a==b)||m.Like.any fun p=>(p.A==a&&p.B==b)||(p.A==b&&p.B==a)
theorem likeB_comm (m:Mp) (a b:Int):likeB m a b=likeB m b a:=by
 unfold likeB
 rw [Bool.eq_iff_iff]
 simp only [Bool.or_eq_true,List.any_eq_true,Bool.and_eq_true,beq_iff_eq]
 constructor
 ·rintro (h|⟨p,hp,h⟩)
  ·exact .inl h.symm
  ·exact .inr ⟨p,hp,h.elim (fun h => .inr h) (fun h => .inl h)⟩
 ·rintro (h|⟨p,hp,h⟩)
  ·exact .inl h.symm
  ·exact .inr ⟨p,hp,h.elim (fun h => .inr h) (fun h => .inl h)⟩
theorem besideB_comm (all:List Sp) (s:Pr) (a b:Int):besideB all s a b=besideB all s b a:=by
 unfold besideB;rw [Bool.or_comm]
theorem metB_comm (m:Mp) (l:List Int) (a b:Int):metB m l a b=metB m l b a:=by
 unfold metB;congr 1;funext s;exact besideB_comm _ s a b
def clash (P:Nat→Bool) (Q:Int→Bool):List Int→Nat→Bool
 | [],_=>false
 | x::xs,b=>(P b&&Q x)||clash P Q xs (b+1)
theorem clash_iff {P:Nat→Bool} {Q:Int→Bool}:∀(l:List Int) (b:Nat),clash P Q l b=true↔∃i:Nat,i<l.length∧P (b+i)=true∧Q l[i]! = true:=by
 intro l
 induction l with
 | nil=>intro b;simp [clash]
 | cons x xs ih =>
  intro b
  rw [clash,Bool.or_eq_true,Bool.and_eq_true,ih]
  constructor
  ·rintro (h|⟨i,h1,h2,h3⟩)
   ·exact ⟨0,by simp,by simpa using h.1,by simpa using h.2⟩
   ·exact ⟨i+1,by simpa using h1,by rwa [show b+(i+1)=b+1+i from by omega],by simpa using h3⟩
  ·rintro ⟨i,h1,h2,h3⟩
   cases i with
   | zero=>exact .inl ⟨by simpa using h2,by simpa using h3⟩
   | succ i=>exact .inr ⟨i,by simpa using h1,by rwa [show b+(i+1)=b+1+i from by omega] at h2,by simpa using h3⟩
def fine (m:Mp) (l:List Int) (pre:List Int) (ink:Int):Bool := !clash (fun b=>metB m l pre.length b) (likeB m ink) pre 0
def paintS (m:Mp) (l:List Int):List Int:=srch (fine m l) m.Inks.toNat (l.length+1) []
def paints (m:Mp) (l:List Int):List Int×Int×Int:=if (chkLeg m l).2=0 then (if paintS m l=[] then ([],0,9) else (paintS m l,(cnt (paintS m l):Int),0)) else ([],0,(chkLeg m l).2)
def pop (u:Nat):Nat:=(List.range 6).countP fun i=>u.testBit i
theorem e70_all:((List.range 64).all fun u=>F93 (IntKind.u64.wrap (u:Int))==some ((pop u:Nat):Int))=true:=by kernel_rfl
theorem e70 {u:Nat} (h:u<64):F93 (IntKind.u64.wrap (u:Int))=some ((pop u:Nat):Int):=by
 have:=List.all_eq_true.1 e70_all u (List.mem_range.2 h)
 exact eq_of_beq this
theorem pop_all:((List.range 64).all fun u=>(List.range 6).all fun i=>pop (u ||| 2^i)==pop u+(if u.testBit i then 0 else 1)&&Nat.blt (u ||| 2^i) 64)=true:=by kernel_rfl
theorem pop_or {u i:Nat} (h:u<64) (hi:i<6):pop (u ||| 2^i)=pop u+(if u.testBit i then 0 else 1)∧u ||| 2^i<64:=by
 have:=List.all_eq_true.1 (List.all_eq_true.1 pop_all u (List.mem_range.2 h)) i (List.mem_range.2 hi)
 rw [Bool.and_eq_true] at this
 exact ⟨eq_of_beq this.1,by simpa using this.2⟩
structure UsedOk (u:Nat) (pre:List Int):Prop where
 lt:u<64
 num:pop u=cnt pre
 bit:∀i:Nat,i<6→(u.testBit i=true↔(i:Int)∈pre)
theorem UsedOk.snoc {u:Nat} {pre:List Int} (h:UsedOk u pre) {i:Nat} (hi:i<6):UsedOk (u ||| 2^i) (pre++[(i:Int)]):=by
 obtain ⟨h1,h2⟩:=pop_or h.lt hi
 refine ⟨h2,?_,fun j hj=>?_⟩
 ·rw [h1,h.num,cnt_snoc]
  congr 1
  have:=h.bit i hi
  by_cases hb:u.testBit i=true
  ·rw [if_pos hb,if_pos (by rw [List.contains_iff_mem];exact this.1 hb)]
  ·rw [if_neg hb,if_neg (by rw [List.contains_iff_mem];exact fun hm=>hb (this.2 hm))]
 ·rw [Nat.testBit_or,Nat.testBit_two_pow,Bool.or_eq_true,h.bit j hj,List.mem_append,List.mem_singleton,decide_eq_true_eq]
  exact or_congr_right ⟨fun e=>by omega,fun e=>by omega⟩
theorem used_nil:UsedOk 0 []:=⟨by omega,by decide,fun i _=>by simp⟩
theorem likeM_iff {m:Mp} {a b:Nat} (ha:(a:Int)<m.Inks):likeM m m.Like a b↔likeB m a b=true:=by
 unfold likeM likeP likeB
 simp only [Bool.or_eq_true,List.any_eq_true,Bool.and_eq_true,beq_iff_eq]
 constructor
 ·rintro (⟨h,_⟩|⟨p,hp,h⟩)
  ·exact .inl (by omega)
  ·exact .inr ⟨p,hp,h⟩
 ·rintro (h|⟨p,hp,h⟩)
  ·exact .inl ⟨by omega,ha⟩
  ·exact .inr ⟨p,hp,h⟩
theorem e68 {m:Mp} {l:List Int} {c:S_colour_chart} (hc:ChartOk m l c.vec) (g:GoodM m) {a b:Int} (ha:0≤a∧a<m.Inks) (hb:0≤b∧b<m.Inks):F91 (some c) a b=some (likeB m a b):=by
 have h6:=g.i1
 obtain ⟨a,rfl⟩:∃n:Nat,a=n:=⟨a.toNat,by omega⟩
 obtain ⟨b,rfl⟩:∃n:Nat,b=n:=⟨b.toNat,by omega⟩
 obtain ⟨n,h1,h2,h3⟩:=hc.bit a (by omega)
 have hl:=hc.len
 unfold F91
 rw [Option.bind_some,need_true (by omega),Option.bind_some,Int.toNat_natCast,Nat.mul_one,get_bang (by omega),Option.bind_some,need_true (by omega),Option.bind_some,h1,Int.toNat_natCast,Nat.min_eq_left (by omega)]
 congr 1
 have e1:((n:Int) / 2^b)=((n / 2^b:Nat):Int):=by norm_cast
 have e2:n / 2^b<2^62:=Nat.lt_of_le_of_lt (Nat.div_le_self _ _) (by omega)
 rw [e1]
 rw [show (1:Int)=((1:Nat):Int) from rfl,bits_and _ 1 e2 (by omega),Nat.and_one_is_mod]
 rw [Bool.eq_iff_iff,←likeM_iff ha.2,←h3 b,Nat.testBit_eq_decide_div_mod_eq,beq_iff_eq,decide_eq_true_eq]
 omega
theorem any_loop {α β:Type} {l:List α} {L:Nat→Int→Option (β⊕Unit)} {p:α→Bool} {r:β} (h62:l.length<2^62)
 (h0:∀n c,¬c<(l.length:Int)→L (n+1) c=some (.inr ()))
 (h1:∀n c x,x∈l→0≤c→c<(l.length:Int)→idx l c=some x→L (n+1) c=if p x then some (.inl r) else L n (w64 (c+1))) :
 ∀(suf pre:List α) (n:Nat) (c:Int),l=pre++suf→c=pre.length→suf.length<n→L n c=some (if suf.any p then .inl r else .inr ()):=by
 intro suf
 induction suf with
 | nil =>
  intro pre n c hl hc hn
  obtain ⟨n,rfl⟩:∃m,n=m+1:=⟨n-1,by simp at hn;omega⟩
  rw [h0 n c (by rw [hl];simp;omega)];rfl
 | cons x suf ih =>
  intro pre n c hl hc hn
  simp only [List.length_cons] at hn
  obtain ⟨n,rfl⟩:∃m,n=m+1:=⟨n-1,by omega⟩
  have hlen:l.length=pre.length+(suf.length+1):=by rw [hl];simp
  rw [h1 n c x (by rw [hl];simp) (by omega) (by omega) (by rw [hl];exact idx_mid hc),List.any_cons]
  cases p x with
  | true=>simp
  | false =>
   rw [if_neg (by simp),w64_id (by omega) (by omega),ih (pre++[x]) n (c+1) (by simp [hl]) (by simp;omega) (by omega),Bool.false_or]
theorem e46 {k:Nat} {l:List Int} {n:Int} (hk:l.length<k) (h62:l.length<2^62):F28 k l n=some (l.contains n):=by
 unfold F28
 rw [any_loop (l:=l) (L:=F28L1 l n) (p:=fun x=>x==n) (r:=true) h62 (fun k c h=>by rw [F28L1,if_neg (by simpa using h)])
  (fun k c x hx h0 h1 hi=>by rw [F28L1,if_pos (by simpa using h1),hi];rfl) l [] k 0 rfl rfl hk,Option.bind_some]
 have e:(l.any fun x=>x==n)=l.contains n:=by
  rw [Bool.eq_iff_iff,List.contains_iff_mem,List.any_eq_true]
  exact ⟨fun ⟨x,h,e⟩=>by rw [←eq_of_beq e];exact h,fun h=>⟨n,h,by simp⟩⟩
 rw [e]
 cases l.contains n<;>rfl
theorem e49 {k:Nat} {m:Mp} {a b:Int} (hk:m.Like.length<k) (h62:m.Like.length<2^62):F30 k m a b=some (likeB m a b):=by
 unfold F30 likeB
 cases hab:a==b with
 | true=>rfl
 | false =>
  rw [if_neg (by simp),any_loop (l:=m.Like) (L:=F30L1 m a b) (p:=fun p=>(p.A==a&&p.B==b)||(p.A==b&&p.B==a)) (r:=true) h62 (fun k c h=>by rw [F30L1,if_neg (by simpa using h)])
   (fun k c x hx h0 h1 hi=>by
    rw [F30L1,if_pos (by simpa using h1),hi,Option.bind_some]
    cases x.A==a<;>cases x.B==b<;>cases x.A==b<;>cases x.B==a<;>rfl) m.Like [] k 0 rfl rfl hk,Option.bind_some]
  cases m.Like.any fun p=>(p.A==a&&p.B==b)||(p.A==b&&p.B==a)<;>rfl
theorem mem_rowM {P:Int→Bool} {a:Int} {p:Pr}:∀(n:Nat) (b:Int),p∈rowM P a n b↔p.A=a∧b≤p.B∧p.B<b+n∧P p.B=true:=by
 intro n
 induction n with
 | zero=>intro b;simp [rowM];omega
 | succ n ih =>
  intro b
  rw [rowM]
  cases h:P b with
  | true =>
   rw [if_pos rfl,List.mem_cons,ih]
   constructor
   ·rintro (rfl|⟨h1,h2,h3,h4⟩)
    ·exact ⟨rfl,by simp,by simp;omega,h⟩
    ·exact ⟨h1,by omega,by omega,h4⟩
   ·rintro ⟨h1,h2,h3,h4⟩
    by_cases he:p.B=b
    ·left;cases p;simp_all
    ·exact .inr ⟨h1,by omega,by omega,h4⟩
  | false =>
   rw [if_neg (by simp),ih]
   constructor
   ·rintro ⟨h1,h2,h3,h4⟩
    exact ⟨h1,by omega,by omega,h4⟩
   ·rintro ⟨h1,h2,h3,h4⟩
    by_cases he:p.B=b
    ·rw [he,h] at h4;cases h4
    ·exact ⟨h1,by omega,by omega,h4⟩
theorem mem_metM {m:Mp} {l:List Int} {p:Pr}:∀(d:Nat) (a:Int),0≤a→a+d=l.length+1→(p∈metM m l d a↔a≤p.A∧p.A<p.B∧p.B≤l.length∧metB m l p.A p.B=true):=by
 intro d
 induction d with
 | zero=>intro a h0 h1;simp [metM];omega
 | succ d ih =>
  intro a h0 h1
  rw [metM,List.mem_append,mem_rowM,ih (a+1) (by omega) (by omega)]
  constructor
  ·rintro (⟨h2,h3,h4,h5⟩|⟨h2,h3⟩)
   ·exact ⟨by omega,by omega,by omega,by rw [h2];exact h5⟩
   ·exact ⟨by omega,h3⟩
  ·rintro ⟨h2,h3,h4,h5⟩
   by_cases he:p.A=a
   ·exact .inl ⟨he,by omega,by omega,by rw [←he];exact h5⟩
   ·exact .inr ⟨by omega,h3,h4,h5⟩

def pnt (m:Mp) (l x:List Int):Bool := !(metM m l (l.length+1) 0).any fun p=>decide (p.B<(x.length:Int))&&likeB m x[p.A.toNat]! x[p.B.toNat]!
theorem pnt_iff {m:Mp} {l x:List Int}:pnt m l x=true↔∀a b:Nat,a<b→b≤l.length→metB m l a b=true→b<x.length→likeB m x[a]! x[b]! = false:=by
 unfold pnt
 rw [Bool.not_eq_true',List.any_eq_false]
 constructor
 ·intro h a b hab hb hm hx
  have:=h ⟨a,b⟩ ((mem_metM _ 0 (by omega) (by omega)).2 ⟨by simp,by simp;omega,by simp;omega,hm⟩)
  simpa [hx] using this
 ·intro h p hp
  obtain ⟨h1,h2,h3,h4⟩:=(mem_metM _ 0 (by omega) (by omega)).1 hp
  rw [Bool.and_eq_true,decide_eq_true_eq]
  rintro ⟨h5,h6⟩
  have:=h p.A.toNat p.B.toNat (by omega) (by omega) (by rw [Int.toNat_of_nonneg (by omega),Int.toNat_of_nonneg (by omega)];exact h4) (by omega)
  rw [this] at h6;cases h6
theorem snoc_bang {x:List Int} {i:Int} {j:Nat} (h:j<x.length):(x++[i])[j]! = x[j]! := by
 rw [getElem!_pos (x++[i]) j (by simp;omega),getElem!_pos x j h,List.getElem_append_left h]
theorem snoc_last {x:List Int} {i:Int}:(x++[i])[x.length]! = i:=by
 rw [getElem!_pos (x++[i]) x.length (by simp)];simp
theorem fine_iff {m:Mp} {l x:List Int} {i:Int}:fine m l x i=true↔∀a:Nat,a<x.length→metB m l a x.length=true→likeB m x[a]! i=false:=by
 unfold fine
 rw [Bool.not_eq_true',←Bool.not_eq_true,clash_iff]
 constructor
 ·intro h a ha hm
  rw [←Bool.not_eq_true]
  intro hq
  exact h ⟨a,ha,by rw [metB_comm];simpa using hm,by rw [likeB_comm];exact hq⟩
 ·rintro h ⟨a,ha,hm,hq⟩
  have:=h a ha (by rw [metB_comm];simpa using hm)
  rw [likeB_comm,this] at hq;cases hq
theorem pnt_snoc {m:Mp} {l x:List Int} {i:Int} (hx:x.length≤l.length) (hp:pnt m l x=true):pnt m l (x++[i])=fine m l x i:=by
 rw [Bool.eq_iff_iff,pnt_iff,fine_iff]
 rw [pnt_iff] at hp
 constructor
 ·intro h a ha hm
  have:=h a x.length ha hx hm (by simp)
  rwa [snoc_bang ha,snoc_last] at this
 ·intro h a b hab hb hm hl
  simp only [List.length_append,List.length_singleton] at hl
  by_cases he:b=x.length
  ·subst he
   rw [snoc_bang hab,snoc_last]
   exact h a hab hm
  ·rw [snoc_bang (by omega),snoc_bang (by omega)]
   exact hp a b hab hb hm (by omega)
theorem take_bang {own pre:List Int} (h:own.take pre.length=pre) {i:Nat} (hi:i<pre.length) (ho:pre.length≤own.length):own[i]! = pre[i]! := by
 rw [getElem!_pos own i (by omega),getElem!_pos pre i hi]
 have e:pre[i]=(own.take pre.length)[i]'(by simp;omega):=by simp [h]
 rw [e];simp
theorem e69L2 {m:Mp} {l:List Int} {c:S_colour_chart} (hc:ChartOk m l c.vec) (g:GoodM m) {pre own acc:List Int} {ink many:Int} (hN:pre.length<6) (ho:pre.length≤own.length) (ht:own.take pre.length=pre)
 (hp:∀x∈pre,0≤x∧x<m.Inks) (hi:0≤ink∧ink<m.Inks):∀(d n b:Nat),b+d=pre.length→d<n →
 F92L2 (pre.length:Int) (some c) (some c) (ink,acc,many,own) n (b:Int)=some (.inr (if clash (fun b=>metB m l pre.length b) (likeB m ink) (pre.drop b) b then .inl () else .inr ())):=by
 intro d
 induction d with
 | zero =>
  intro n b hb hn
  obtain ⟨n,rfl⟩:∃m,n=m+1:=⟨n-1,by omega⟩
  rw [F92L2,if_neg (by simp;omega),List.drop_eq_nil_of_le (by omega)];rfl
 | succ d ih =>
  intro n b hb hn
  obtain ⟨n,rfl⟩:∃m,n=m+1:=⟨n-1,by omega⟩
  have hl:=hc.len
  have hlt:b<pre.length:=by omega
  obtain ⟨row,hr⟩:∃r,cutN c.vec (0+((pre.length:Nat):Int).toNat*6) 6=some r:=⟨_,if_pos (by rw [Int.toNat_natCast];omega)⟩
  have hrow:=(cutN_some hr).2.2
  have e1:row[0+(b:Int).toNat*1]? = some c.vec[pre.length*6+b]! := by
   rw [Int.toNat_natCast,Nat.mul_one,Nat.zero_add,get_bang (by omega)]
   have:row[b]! = c.vec[(0+((pre.length:Nat):Int).toNat*6)+b]! := by
    obtain ⟨h1,h2,h3⟩:=cutN_some hr
    rw [getElem!_pos row b (by omega),getElem!_pos c.vec _ (by rw [Int.toNat_natCast];omega)]
    subst h2
    simp
   rw [this,Int.toNat_natCast,Nat.zero_add]
  have e2:decide (c.vec[pre.length*6+b]! > 0)=metB m l pre.length b:=by
   rw [Bool.eq_iff_iff,decide_eq_true_eq]
   exact chart_met hc hN (by omega) (by omega)
  have e3:own[b]! = pre[b]! := take_bang ht hlt ho
  have e4:pre.drop b=pre[b]! :: pre.drop (b+1):=by
   rw [List.drop_eq_getElem_cons hlt,getElem!_pos pre b hlt]
  have hx:=hp pre[b]! (by rw [getElem!_pos pre b hlt];exact List.getElem_mem _)
  rw [F92L2,if_pos (by simp;omega)]
  dsimp only
  rw [idx_nat (by omega),Option.bind_some,need_true (by simp;omega),Option.bind_some,Option.bind_some,need_true (by omega),Option.bind_some,hr,Option.bind_some,need_true (by omega),Option.bind_some,e1,Option.bind_some,e2,e3,e4,clash]
  have ih':=ih n (b+1) (by omega) (by omega)
  cases hm:metB m l pre.length b with
  | false =>
   simp only [optG_false,Option.bind_some,cond_false,Bool.false_eq_true,if_false,Bool.false_and,Bool.false_or]
   rw [w64_id (by omega) (by omega),show (b:Int)+1=((b+1:Nat):Int) from by omega,ih']
  | true =>
   rw [optG_true,e68 hc g hi hx,Option.bind_some]
   simp only [cond_true,Bool.true_and]
   cases hq:likeB m ink pre[b]! with
   | true=>simp
   | false =>
    simp only [Bool.false_eq_true,if_false,Bool.false_or]
    rw [w64_id (by omega) (by omega),show (b:Int)+1=((b+1:Nat):Int) from by omega,ih']
theorem prune_if {acc:List Int} {x y:Int}:(cond (!(Nat.beq acc.length 0)) (decide (x≥y)) false)=decide (acc≠[]∧y≤x):=by
 cases acc with
 | nil=>rfl
 | cons a tl=>simp [Nat.beq_eq];intro _;rfl

structure St (N:Nat) (pre r:List Int) (o:List Int×Int×List Int):Prop where
 res:o.1=r
 num:r≠[]→o.2.1=(cnt r:Int)
 len:o.2.2.length=N
 tak:o.2.2.take pre.length=pre
theorem e69 {m:Mp} {l:List Int} {c:S_colour_chart} (hc:ChartOk m l c.vec) (g:GoodM m) (hl:l.length≤5):∀(d k:Nat) (pre acc own:List Int) (u:Nat) (many:Int),20+d≤k→pre.length+d=l.length+1 →
 own.length=l.length+1→own.take pre.length=pre→UsedOk u pre→(∀x∈pre,0≤x∧x<m.Inks)→(acc≠[]→many=(cnt acc:Int)) →
 Ok (F92 k (pre.length:Int) (u:Int) acc many own m.Borders m.Step m.Heights m.Sides m.Inks m.Like (some c) (some c)) (St (l.length+1) pre (mrg acc (srch (fine m l) m.Inks.toNat d pre))):=by
 have hi0:=g.i0
 have hi1:=g.i1
 intro d
 induction d with
 | zero =>
  intro k pre acc own u many hk hN ho ht hu hp ha
  obtain ⟨k,rfl⟩:∃m,k=m+1:=⟨k-1,by omega⟩
  have hown:own=pre:=by rw [←ht,List.take_of_length_le (by omega)]
  have hne:pre≠[]:=by intro h;simp [h] at hN
  rw [F92,B92,e70 hu.lt,Option.bind_some,hu.num,prune_if]
  by_cases hpr:acc≠[]∧cnt acc≤cnt pre
  ·have:=ha hpr.1
   rw [if_pos (decide_eq_true ⟨hpr.1,by omega⟩),ok_some,srch,mrg_ge hpr.1 (.inr hpr.2)]
   exact ⟨rfl,ha,ho,ht⟩
  ·have hlt:acc=[]∨cnt pre<cnt acc:=by
    by_cases h:acc=[]
    ·exact .inl h
    ·exact .inr (Nat.lt_of_not_le fun h2=>hpr ⟨h,h2⟩)
   rw [if_neg (by
    rw [decide_eq_true_eq]
    rintro ⟨h,h2⟩
    have:=ha h
    exact hpr ⟨h,by omega⟩),if_pos (by simp;omega),need_true (by omega),Option.bind_some]
   have e:own.take (List.replicate ((own.length:Nat):Int).toNat (0:Int)).length++(List.replicate ((own.length:Nat):Int).toNat (0:Int)).drop own.length=own:=by
    rw [List.length_replicate,Int.toNat_natCast,List.take_of_length_le (by omega),List.drop_eq_nil_of_le (by simp),List.append_nil]
   rw [e,need_true (by omega),Option.bind_some,ok_some,srch,mrg_lt hne hlt]
   exact ⟨hown,fun _=>rfl,ho,ht⟩
 | succ d ih =>
  intro k pre acc own u many hk hN ho ht hu hp ha
  obtain ⟨k,rfl⟩:∃m,k=m+1:=⟨k-1,by omega⟩
  rw [F92,B92,e70 hu.lt,Option.bind_some,hu.num,prune_if]
  by_cases hpr:acc≠[]∧cnt acc≤cnt pre
  ·have:=ha hpr.1
   rw [if_pos (decide_eq_true ⟨hpr.1,by omega⟩),ok_some,srch_prune hpr.1 hpr.2]
   exact ⟨rfl,ha,ho,ht⟩
  ·rw [if_neg (by
    rw [decide_eq_true_eq]
    rintro ⟨h,h2⟩
    have:=ha h
    exact hpr ⟨h,by omega⟩),if_neg (by simp;omega)]
   have key:∀(j n i:Nat) (acc own:List Int) (many:Int),i+j=m.Inks.toNat→j<n→own.length=l.length+1→own.take pre.length=pre→(acc≠[]→many=(cnt acc:Int)) →
    Ok (F92L1 (k+1) (F92 k) (pre.length:Int) (u:Int) m.Borders m.Step m.Heights m.Sides m.Inks m.Like (some c) (some c) n ((i:Int),acc,many,own)) fun o=>∃s,o = .inr s ∧
     St (l.length+1) pre (srchK (fun i=>if fine m l pre i then srch (fine m l) m.Inks.toNat d (pre++[i]) else []) j i acc) s:=by
    intro j
    induction j with
    | zero =>
     intro n i acc own many hi hn ho ht ha
     obtain ⟨n,rfl⟩:∃m,n=m+1:=⟨n-1,by omega⟩
     rw [F92L1,if_neg (by simp;omega),ok_some]
     exact ⟨_,rfl,rfl,ha,ho,ht⟩
    | succ j ihj =>
     intro n i acc own many hi hn ho ht ha
     obtain ⟨n,rfl⟩:∃m,n=m+1:=⟨n-1,by omega⟩
     have e0:=e69L2 hc g (acc:=acc) (many:=many) (by omega) (by omega) ht hp (ink:=(i:Int)) (by omega) pre.length (k+1) 0 (by omega) (by omega)
     rw [List.drop_zero,Int.natCast_zero] at e0
     rw [F92L1,if_pos (by simp;omega)]
     dsimp only
     rw [sub_take (by omega) (by omega),Option.bind_some,e0,Option.bind_some,outK_inr,srchK]
     have hf:fine m l pre i = !clash (fun b=>metB m l pre.length b) (likeB m i) pre 0:=rfl
     cases hcl:clash (fun b=>metB m l pre.length b) (likeB m i) pre 0 with
     | true =>
      rw [if_pos rfl,outK_inl,w64_id (by omega) (by omega),hf,hcl,Bool.not_true,if_neg (by simp),mrg_nil]
      exact ihj n (i+1) acc own many (by omega) (by omega) ho ht ha
     | false =>
      rw [if_neg (by simp),outK_inr,idx_nat (by omega),Option.bind_some,need_true (by omega),Option.bind_some,hf,hcl,Bool.not_false,if_pos rfl,w64_id (by omega) (by omega),
       shl1 i (by omega),bits_or _ _ (by have:=hu.lt;omega) (by have:=(pop_or hu.lt (show i<6 by omega)).2;have:=Nat.pow_le_pow_right (n:=2) (by omega) (show i≤6 by omega);omega),Int.toNat_natCast]
      have e5:(pre.length:Int)+1=((pre++[(i:Int)]).length:Int):=by simp
      have ht':(own.set pre.length (i:Int)).take (pre++[(i:Int)]).length=pre++[(i:Int)]:=by
       have h1:own.set pre.length (i:Int)=own.take pre.length++(i:Int)::own.drop (pre.length+1):=List.set_eq_take_append_cons_drop .. |>.trans (if_pos (by omega))
       rw [h1,ht]
       simp only [List.length_append,List.length_singleton]
       rw [List.take_append,List.take_of_length_le (by omega)]
       simp
      rw [e5,ok_bind]
      refine (ih k (pre++[(i:Int)]) acc (own.set pre.length (i:Int)) (u ||| 2^i) many (by omega) (by simp;omega) (by simpa using ho) ht' (hu.snoc (by omega)) ?_ ha).mono fun o hO=>?_
      ·intro x hx
       rcases List.mem_append.1 hx with h|h
       ·exact hp x h
       ·rw [List.mem_singleton] at h;subst h;omega
      ·rw [w64_id (by omega) (by omega),show (i:Int)+1=((i+1:Nat):Int) from by omega,hO.res]
       refine ihj n (i+1) _ o.2.2 o.2.1 (by omega) (by omega) hO.len ?_ hO.num
       have h2:=congrArg (List.take pre.length) hO.tak
       rw [List.take_take,List.take_left' rfl,Nat.min_eq_left (by simp)] at h2
       exact h2
   rw [ok_bind]
   have k0:=key m.Inks.toNat (k+1) 0 acc own many (by omega) (by omega) ho ht ha
   rw [Int.natCast_zero] at k0
   refine k0.mono fun o hO=>?_
   obtain ⟨s,rfl,hs⟩:=hO
   rw [outK_inr,ok_some]
   have e6:mrg acc (srch (fine m l) m.Inks.toNat (d+1) pre)=srchK (fun i=>if fine m l pre i then srch (fine m l) m.Inks.toNat d (pre++[i]) else []) m.Inks.toNat 0 acc:=by
    rw [srch,←srchK_mrg,mrg_nil]
   rw [e6]
   exact hs
theorem e31 {k:Nat} (hk:30≤k) {m:Mp} {l:List Int}:F29 k m l=some (paints m l):=by
 unfold F29 paints
 by_cases h:(chkLeg m l).2=0
 ·obtain ⟨g,gl⟩:=chkLeg_good.1 h
  have hl:l.length≤5:=by have:=g.b1;have:=gl.len;omega
  obtain ⟨v,h1,h2⟩:=e64 (k:=k) (by omega) g gl
  rw [h1,Option.bind_some,if_neg (by simp),if_pos h,w64_id (by omega) (by omega),need_true (by omega),Option.bind_some]
  obtain ⟨o,h3,h4⟩:=e69 (c:=⟨m,l,alls m l,v⟩) h2 g hl (l.length+1) k [] [] (List.replicate ((l.length:Int)+1).toNat 0) 0 0 (by omega) (by simp) (by rw [List.length_replicate];omega) (by simp) used_nil (by simp) (by simp)
  rw [nil_mrg] at h4
  simp only [List.length_nil,Int.natCast_zero] at h3
  rw [h3,Option.bind_some,h4.res]
  change (if Nat.beq (paintS m l).length 0=true then _ else _)=_
  by_cases hn:paintS m l=[]
  ·rw [if_pos (by simp [hn]),if_pos hn]
  ·rw [if_neg (by simpa using hn),if_neg hn,h4.num hn];rfl
 ·rw [e64_bad (by omega) h,Option.bind_some,if_pos (by simpa using h),if_neg h]
theorem alls_at {m:Mp} {l:List Int} {i:Int} (h0:0≤i) (h:i<m.Heights.length):(alls m l)[i.toNat]! = ⟨(band l m.Heights[i.toNat]!.Lo:Int),(band l m.Heights[i.toNat]!.Hi:Int)⟩:=by
 rw [getElem!_pos _ i.toNat (by simp [alls];omega),getElem!_pos _ i.toNat (by omega)];simp [alls,bandS]
def Tn (x:List Int):Prop:=(∀n∈x,0≤n∧n≤65535)∧x.length<2^63
theorem e44 {x:List Int} (hx:Tn x) {i:Int} (hi:0≤i):∃t,F89 x i=some t∧0≤t∧t≤65535:=by
 unfold F89
 have hl:=hx.2
 by_cases h:x.length=0
 ·rw [if_pos (by simp [h])];exact ⟨0,rfl,by omega,by omega⟩
 ·rw [if_neg (by simpa using h),need_true (by omega),Option.bind_some,Int.tmod_eq_emod_of_nonneg (by omega)]
  have h1:=Int.emod_nonneg i (show (x.length:Int)≠0 by omega)
  have h2:=Int.emod_lt_of_pos i (show 0<(x.length:Int) by omega)
  rw [idx_bang h1 h2,Option.bind_some]
  have hm:=hx.1 x[(i % (x.length:Int)).toNat]! (by rw [getElem!_pos x _ (by omega)];exact List.getElem_mem _)
  refine ⟨_,rfl,?_⟩
  rw [show IntKind.i64.wrap x[(i % (x.length:Int)).toNat]! = w64 x[(i % (x.length:Int)).toNat]! from rfl,w64_id (by omega) (by omega)]
  exact hm
theorem tmod_room {a b:Int} (ha:0≤a) (hb:0<b):0≤a.tmod b∧a.tmod b<b:=by
 rw [Int.tmod_eq_emod_of_nonneg ha]
 exact ⟨Int.emod_nonneg a (by omega),Int.emod_lt_of_pos a hb⟩
theorem e43 {s:Sp} (h0:0≤s.Lo) (h1:s.Lo≤s.Hi) (h2:s.Hi≤9000) {n:Int} (hn:0≤n):∃t,F88 s n=some t∧s.Lo≤t∧t≤s.Hi:=by
 unfold F88
 rw [w64_id (n:=s.Hi-s.Lo) (by omega) (by omega),w64_id (n:=s.Hi-s.Lo+1) (by omega) (by omega),need_true (by omega),Option.bind_some]
 have:=tmod_room hn (show 0<s.Hi-s.Lo+1 by omega)
 rw [w64_id (by omega) (by omega)]
 exact ⟨_,rfl,by omega,by omega⟩
theorem e40 {k:Nat} (hk:20≤k) {m:Mp} (g:GoodM m) {x:List Int} (hx:Tn x):∃l,F22 k m x=some l∧l.length=m.Borders.length:=by
 have hb1:=g.b1
 have hst0:=g.st0
 have hst1:=g.st1
 have key:∀(d n c:Nat) (acc:List Int),c+d=m.Borders.length→d<n→acc.length=c→(∀y∈acc,0≤y∧y≤9000)→∃l,F22L1 m x n ((c:Int),acc)=some (.inr l)∧l.length=m.Borders.length:=by
  intro d
  induction d with
  | zero =>
   intro n c acc hc hn ha hb
   obtain ⟨n,rfl⟩:∃m,n=m+1:=⟨n-1,by omega⟩
   rw [F22L1,if_neg (by simp;omega)]
   exact ⟨acc,rfl,by omega⟩
  | succ d ih =>
   intro n c acc hc hn ha hb
   obtain ⟨n,rfl⟩:∃m,n=m+1:=⟨n-1,by omega⟩
   have hcl:c<m.Borders.length:=by omega
   have hbb:=g.bor m.Borders[c]! (by rw [getElem!_pos m.Borders c hcl];exact List.getElem_mem _)
   obtain ⟨t,ht,ht0,ht1⟩:=e44 hx (i:=(c:Int)) (by omega)
   rw [F22L1,if_pos (by simp;omega)]
   dsimp only
   rw [idx_nat hcl,Option.bind_some,ht]
   have fin:∀v:Int,0≤v→v≤9000→∃l,((need ((acc.length+([v]:List Int).length)*8≤140737488355328∧acc.length+([v]:List Int).length≤9223372036854775807)).bind fun _=>F22L1 m x n ((w64 ((c:Int)+1)),(acc++([v]:List Int))))=some (.inr l)∧l.length=m.Borders.length:=by
    intro v hv0 hv1
    rw [need_true (by simp;omega),Option.bind_some,w64_id (by omega) (by omega)]
    obtain ⟨l,h1,h2⟩:=ih n (c+1) (acc++[v]) (by omega) (by omega) (by simp;omega) (by
     intro y hy
     rcases List.mem_append.1 hy with h|h
     ·exact hb y h
     ·rw [List.mem_singleton] at h;omega)
    exact ⟨l,by rw [show ((c+1:Nat):Int)=(c:Int)+1 from by omega] at h1;exact h1,h2⟩
   have plain:∃l,((some t).bind fun x13=>(F88 m.Borders[c]! x13).bind fun x14=>(need ((acc.length+([x14]:List Int).length)*8≤140737488355328∧acc.length+([x14]:List Int).length≤9223372036854775807)).bind fun _=>F22L1 m x n ((w64 ((c:Int)+1)),(acc++([x14]:List Int))))=some (.inr l)∧l.length=m.Borders.length:=by
    obtain ⟨v,hv,hv0,hv1⟩:=e43 hbb.1 hbb.2.1 hbb.2.2.1 ht0
    rw [Option.bind_some,hv,Option.bind_some]
    exact fin v (by omega) (by omega)
   by_cases h0:c=0
   ·rw [decide_eq_false (by omega),optG_false,Option.bind_some,cond_false,if_neg (by simp)]
    exact plain
   ·rw [decide_eq_true (by omega),optG_true,w64_id (by omega) (by omega),idx_bang (by omega) (by omega),Option.bind_some,cond_true,Option.bind_some]
    have hq:=hb acc[((c:Int)-1).toNat]! (by rw [getElem!_pos acc _ (by omega)];exact List.getElem_mem _)
    rw [w64_id (n:=acc[((c:Int)-1).toNat]! + m.Step) (by omega) (by omega)]
    by_cases hle:acc[((c:Int)-1).toNat]! + m.Step≤m.Borders[c]!.Hi
    ·rw [decide_eq_true hle,if_pos rfl]
     obtain ⟨v,hv,hv0,hv1⟩:=e43 (s:=⟨if acc[((c:Int)-1).toNat]! + m.Step>m.Borders[c]!.Lo then acc[((c:Int)-1).toNat]! + m.Step else m.Borders[c]!.Lo,m.Borders[c]!.Hi⟩) (n:=t) (by dsimp only;split<;>omega) (by dsimp only;split<;>omega) hbb.2.2.1 ht0
     rw [Option.bind_some,hv,Option.bind_some]
     have:0≤v:=by dsimp only at hv0;split at hv0<;>omega
     dsimp only at hv1
     exact fin v (by omega) (by omega)
    ·rw [decide_eq_false hle,if_neg (by simp)]
     exact plain
 unfold F22
 obtain ⟨l,h1,h2⟩:=key m.Borders.length k 0 [] (by omega) (by omega) rfl (by simp)
 rw [Int.natCast_zero] at h1
 rw [h1,Option.bind_some,outK_inr]
 exact ⟨l,rfl,h2⟩
theorem mem_doubt:∀(l:List Sp) (i0 j:Int),j∈doubt l i0↔∃k:Nat,k<l.length∧j=i0+k∧l[k]!.Lo<l[k]!.Hi:=by
 intro l
 induction l with
 | nil=>intro i0 j;simp [doubt]
 | cons s ss ih =>
  intro i0 j
  have e:j∈doubt (s::ss) i0↔(j=i0∧s.Lo<s.Hi)∨j∈doubt ss (i0+1):=by
   rw [doubt]
   by_cases h:s.Lo<s.Hi
   ·rw [if_pos h,List.mem_cons]
    exact or_congr_left ⟨fun e=>⟨e,h⟩,fun e=>e.1⟩
   ·rw [if_neg h]
    exact ⟨.inr,fun h2=>h2.resolve_left fun h3=>h h3.2⟩
  rw [e,ih]
  constructor
  ·rintro (⟨h1,h2⟩|⟨k,h1,h2,h3⟩)
   ·exact ⟨0,by simp,by omega,by simpa using h2⟩
   ·exact ⟨k+1,by simpa using h1,by omega,by simpa using h3⟩
  ·rintro ⟨k,h1,h2,h3⟩
   cases k with
   | zero=>exact .inl ⟨by omega,by simpa using h3⟩
   | succ k=>exact .inr ⟨k,by simpa using h1,by omega,by simpa using h3⟩

def NowOk (all:List Sp) (n:Nat) (now:List Int):Prop:=now.length=n∧∀i:Nat,i<n→all[i]!.Lo≤now[i]! ∧ now[i]! ≤ all[i]!.Hi
theorem NowOk.snoc {all:List Sp} {n:Nat} {now:List Int} (h:NowOk all n now) {v:Int} (hv:all[n]!.Lo≤v∧v≤all[n]!.Hi):NowOk all (n+1) (now++[v]):=by
 refine ⟨by simp [h.1],fun i hi=>?_⟩
 by_cases he:i=n
 ·have:=h.1
  subst he
  rw [←this]
  rw [←this] at hv
  rw [snoc_last];exact hv
 ·rw [snoc_bang (by have:=h.1;omega)];exact h.2 i (by omega)
def InB (m:Mp) (x:List Int):Prop:=∀e∈x,0≤e∧e<m.Inks
theorem InB.snoc {m:Mp} {x:List Int} (h:InB m x) {i:Int} (hi:0≤i∧i<m.Inks):InB m (x++[i]):=by
 intro e he
 rcases List.mem_append.1 he with h1|h1
 ·exact h e h1
 ·rw [List.mem_singleton] at h1;rw [h1];exact hi
theorem srch_sound {m:Mp} {l:List Int}:∀(n:Nat) (pre:List Int),pre.length+n=l.length+1→pnt m l pre=true→InB m pre →
 srch (fine m l) m.Inks.toNat n pre=[]∨(pnt m l (srch (fine m l) m.Inks.toNat n pre)=true∧InB m (srch (fine m l) m.Inks.toNat n pre)∧(srch (fine m l) m.Inks.toNat n pre).length=l.length+1):=by
 intro n
 induction n with
 | zero=>intro pre hl hp hb;exact .inr ⟨hp,hb,hl⟩
 | succ n ih =>
  intro pre hl hp hb
  rw [srch]
  refine srchK_ind (P:=fun x=>x=[]∨(pnt m l x=true∧InB m x∧x.length=l.length+1)) (fun a b ha hb=>(mrg_or a b).elim (fun h=>by rw [h];exact ha) (fun h=>by rw [h];exact hb)) _ 0 [] (.inl rfl) fun j hj=>?_
  by_cases h:fine m l pre (0+j)=true
  ·rw [if_pos h]
   exact ih (pre++[0+(j:Int)]) (by simp;omega) (by rw [pnt_snoc (by omega) hp];exact h) (hb.snoc (by omega))
  ·rw [if_neg h];exact .inl rfl
theorem pnt_nil {m:Mp} {l:List Int}:pnt m l []=true:=by rw [pnt_iff];intro a b _ _ _ h;simp at h
theorem paintS_sound (m:Mp) (l:List Int):paintS m l=[]∨(pnt m l (paintS m l)=true∧InB m (paintS m l)∧(paintS m l).length=l.length+1) :=
 srch_sound (l.length+1) [] (by simp) pnt_nil (fun e he=>by cases he)

theorem side_bands {m:Mp} (g:GoodM m) {l:List Int} (gl:GoodL m l) {s:Pr} (hs:s∈m.Sides) {v w:Int} (hv:m.Heights[s.A.toNat]!.Lo≤v∧v≤m.Heights[s.A.toNat]!.Hi) (hw:m.Heights[s.B.toNat]!.Lo≤w∧w≤m.Heights[s.B.toNat]!.Hi) :
 metB m l (band l v) (band l w)=true:=by
 have hsid:=g.sid s hs
 have hA:=alls_at (m:=m) (l:=l) hsid.1.1 hsid.1.2
 have hB:=alls_at (m:=m) (l:=l) hsid.2.1.1 hsid.2.1.2
 have q1:=band_mono l hv.1
 have q2:=band_mono l hv.2
 have q3:=band_mono l hw.1
 have q4:=band_mono l hw.2
 unfold metB
 rw [List.any_eq_true]
 refine ⟨s,hs,?_⟩
 unfold besideB okN
 rw [hA,hB]
 simp only [Bool.or_eq_true,Bool.and_eq_true,decide_eq_true_eq]
 exact .inl ⟨⟨by omega,by omega⟩,by omega,by omega⟩
theorem pnt_like {m:Mp} {l x:List Int} (hp:pnt m l x=true) (hx:x.length=l.length+1) {a b:Nat} (ha:a≤l.length) (hb:b≤l.length) (hm:metB m l a b=true):likeB m x[a]! x[b]! = ((a:Int)==(b:Int)):=by
 rw [pnt_iff] at hp
 by_cases he:a=b
 ·subst he;simp [likeB]
 ·have e:((a:Int)==(b:Int))=false:=beq_eq_false_iff_ne.2 (by omega)
  rw [e]
  rcases Nat.lt_or_gt_of_ne he with h|h
  ·exact hp a b h hb hm (by omega)
  ·rw [likeB_comm];exact hp b a h ha (by rw [metB_comm];exact hm) (by omega)
end Go.Proofs.YtkcgfceihpampaaGreatDoor
