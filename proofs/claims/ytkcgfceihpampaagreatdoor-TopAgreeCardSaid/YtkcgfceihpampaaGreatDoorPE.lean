/- What a program of mine carried over from another seat of mine. -/
import Derived.Test.YtkcgfceihpampaaGreatDoorDH
import Derived.Test.YtkcgfceihpampaaGreatDoorDG
import Derived.Test.YtkcgfceihpampaaGreatDoorDF
import Derived.Test.YtkcgfceihpampaaGreatDoorPN
namespace Go.Proofs.YtkcgfceihpampaaGreatDoor
open Go Go.Sx
set_option linter.all false
set_option maxRecDepth 100000
set_option linter.all false
theorem need_true {p:Prop} [Decidable p] (h:p):need p=some ():=if_pos h
theorem sub_take {α:Type} {l:List α} {c:Int} (h0:0≤c) (h1:c≤l.length):sub l 0 c=some (l.take c.toNat):=by
 unfold sub;rw [if_pos ⟨by omega,h0,h1⟩];simp
section
variable {α σ τ β γ:Type} [Inhabited α]


def foldI (g:Nat→α→σ→σ):List α→Nat→σ→σ
 | [],_,s=>s
 | x::xs,i,s=>foldI g xs (i+1) (g i x s)
theorem runE_fold (g:Nat→α→σ→σ):∀(l:List α) (i:Nat) (s:σ),runE (β:=β) (fun i x s => .inr (g i x s)) l i s = .inr (foldI g l i s):=by
 intro l;induction l with
 | nil=>intro i s;rfl
 | cons x l ih=>intro i s;rw [runE,foldI];exact ih _ _
theorem for_fold {l:List α} {L:Nat→τ→Option (β⊕γ)} (enc:Nat→σ→τ) (fin:σ→γ) (g:Nat→α→σ→σ) (P:Nat→σ→Prop)
 (hP:∀i s,i<l.length→P i s→P (i+1) (g i l[i]! s))
 (hstep:∀n i s,i<l.length→P i s→L (n+1) (enc i s)=L n (enc (i+1) (g i l[i]! s)))
 (hend:∀n s,P l.length s→L (n+1) (enc l.length s)=some (.inr (fin s))) :
 ∀n s,P 0 s→l.length<n→L n (enc 0 s)=some (.inr (fin (foldI g l 0 s))):=by
 intro n s hp hn;rw [for_loop enc fin (fun i x s => .inr (g i x s)) P (fun i s s' hi hp he=>by have he':=Sum.inr.inj he;subst he';exact hP i s hi hp) (fun n i s hi hp=>by simp only;exact hstep n i s hi hp) hend n s hp hn,runE_fold];rfl
theorem foldI_inv {l:List α} (g:Nat→α→σ→σ) (P:Nat→σ→Prop) (hP:∀i s,i<l.length→P i s→P (i+1) (g i l[i]! s)):∀s,P 0 s→P l.length (foldI g l 0 s):=by
 have key:∀(suf pre:List α) (s:σ),l=pre++suf→P pre.length s→P l.length (foldI g suf pre.length s):=by
  intro suf;induction suf with
  | nil=>intro pre s hl hp;rw [Yh] at hl;subst hl;exact hp
  | cons x suf ih =>
   intro pre s hl hp;have hi:pre.length<l.length:=by rw [hl];simp
   have hx:l[pre.length]! = x:=by
    rw [getElem!_pos l pre.length hi];simp [hl]
   have:=hP pre.length s hi hp;rw [hx] at this;have h2:=ih (pre++[x]) (g pre.length x s) (by simp [hl]) (by simpa using this);simpa [foldI] using h2
 intro s hp;exact key l [] s rfl hp
end

theorem fstE_none {α:Type} {p:α→Bool}:∀{l:List α} {i:Nat},fstB p l i=none↔l.any p=false:=by
 intro l;induction l with
 | nil=>intro i;simp [fstB]
 | cons x l ih =>
  intro i;rw [fstB,List.any_cons];cases hp:p x with
  | true=>simp
  | false=>simp [ih]
theorem any_isSome {α:Type} {p:α→Bool} {l:List α} {i:Nat}:(fstB p l i).isSome=l.any p:=by
 cases h:fstB p l i with
 | none=>rw [fstE_none.1 h];rfl
 | some k =>
  cases h2:l.any p with
  | true=>rfl
  | false=>rw [fstE_none.2 h2] at h;simp at h

theorem get_set {α:Type} [Inhabited α] {l:List α} {i j:Nat} {x:α} (hi:i<l.length) (hj:j<l.length):(l.set i x)[j]! = if i=j then x else l[j]! := by
 rw [getElem!_pos (l.set i x) j (by simpa using hj),List.getElem_set,getElem!_pos l j hj]
theorem get_rep {α:Type} [Inhabited α] {n i:Nat} {x:α} (h:i<n):(List.replicate n x)[i]! = x:=by
 rw [getElem!_pos (List.replicate n x) i (by simpa using h),List.getElem_replicate]

abbrev Cs:=S_api_EdCase
abbrev Sh:=S_api_EdSheet
abbrev Eg:=S_api_EdEdge
abbrev Pt:=S_api_EdPoint

theorem e81 (n lo hi:Int):F194 n lo hi=some (!okM lo hi n):=by
 unfold F194 okM;congr 1;rw [Bool.eq_iff_iff];cases h:decide (n<lo) with
 | true=>simp at h;simp;omega
 | false=>simp at h;simp;omega
theorem e48 {k:Nat} {l:List Int} {lo hi:Int} (hk:l.length<k) (hl:l.length<2^62):F160 k lo hi l=some (l.any fun n => !okM lo hi n):=by
 unfold F160 F171v3 F207v3
 obtain ⟨o,h1,h2⟩:=index_loop (l:=l) (L:=F207v3L1 l lo hi) (p:=fun n => !okM lo hi n) hl
  (fun n i hi=>by rw [F207v3L1,if_pos (by simp;omega),idx_nat hi,Za,e81,Za])
  (fun n=>by rw [F207v3L1,if_neg (by simp)]) k hk
 rw [h1,Za,h2,Za,Za];have:=any_isSome (p:=fun n => !okM lo hi n) (l:=l) (i:=0);cases h:fstB (fun n => !okM lo hi n) l 0 with
 | none=>rw [h] at this;rw [←this];rfl
 | some j=>rw [h] at this;rw [←this];simp
theorem e48_1 {k:Nat} {lo hi a:Int} (hk:2≤k):F160 k lo hi [a]=some (!okM lo hi a):=by
 rw [e48 (by simp;omega) (by simp)];simp
theorem e48_2 {k:Nat} {lo hi a b:Int} (hk:3≤k):F160 k lo hi [a,b]=some (!(okM lo hi a&&okM lo hi b)):=by
 rw [e48 (by simp;omega) (by simp)];simp [Bool.not_and]
theorem e50 {k:Nat} {l:List Sh} {nm:ByteArray} {a b:Int} (hk:l.length<k) (hl:l.length<2^62):F202 k l nm a b=some (l.any fun x=>x.Name==nm):=by
 unfold F202 F220
 obtain ⟨o,h1,h2⟩:=index_loop (l:=l) (L:=F220L1 l nm a b) (p:=fun x=>x.Name==nm) hl
  (fun n i hi=>by rw [F220L1,if_pos (by simp;omega),idx_nat hi,Za,F203,Za])
  (fun n=>by rw [F220L1,if_neg (by simp)]) k hk
 rw [h1,Za,h2,Za];have:=any_isSome (p:=fun x:Sh=>x.Name==nm) (l:=l) (i:=0);cases h:fstB (fun x:Sh=>x.Name==nm) l 0 with
 | none=>rw [h] at this;rw [←this];rfl
 | some j=>rw [h] at this;rw [←this];simp

def okP (p:Pt):Bool:=okM 0 9000 p.A&&okM 0 9000 p.B
theorem e52 {k:Nat} {l:List Pt} (hk3:3≤k) (hk:l.length<k) (hl:l.length<2^62):F204 k l=some (l.any fun p => !okP p):=by
 unfold F204 F221
 obtain ⟨o,h1,h2⟩:=index_loop (l:=l) (L:=F221L1 k l) (p:=fun p => !okP p) hl
  (fun n i hi=>by rw [F221L1,if_pos (by simp;omega),idx_nat hi,Za,F205,e48_2 hk3,Za,Za];rfl)
  (fun n=>by rw [F221L1,if_neg (by simp)]) k hk
 rw [h1,Za,h2,Za];have:=any_isSome (p:=fun p:Pt => !okP p) (l:=l) (i:=0);cases h:fstB (fun p:Pt => !okP p) l 0 with
 | none=>rw [h] at this;rw [←this];rfl
 | some j=>rw [h] at this;rw [←this];simp

def shE (before:List Sh) (s:Sh):Int:=if nameB s.Name then (if before.any fun x=>x.Name==s.Name then 5 else if okM 0 20 s.Weight&&okM 0 6 s.Most then 0 else 7) else 6

def egE (n:Int) (x:Eg):Int:=if okM 0 (n-1) x.A&&okM 0 (n-1) x.B then (if x.A==x.B then 2 else if okM 1 4 x.Points.length then (if x.Points.all okP then 0 else 7) else 3) else 4

def shF (c:Cs):List Sh→Nat→Option (Nat×Int)
 | [],_=>none
 | s::l,i=>if shE (c.Sheets.take i) s != 0 then some (i,shE (c.Sheets.take i) s) else shF c l (i+1)
def egF (n:Int):List Eg→Nat→Option (Nat×Int)
 | [],_=>none
 | x::l,i=>if egE n x != 0 then some (i,egE n x) else egF n l (i+1)

def chk (c:Cs):Int×Int×Int :=
 if okM 0 50 c.Tol then
  if okM 1 5 c.Sheets.length&&decide ((c.Edges.length:Int)≤8) then
   match shF c c.Sheets 0 with
   | some (i,e)=>(2,i,e)
   | none=>match egF c.Sheets.length c.Edges 0 with
    | some (i,e)=>(3,i,e)
    | none=>(0,0,0)
  else (1,0,3)
 else (1,0,7)
theorem shF_run (c:Cs):∀(l:List Sh) (i:Nat),runE (β:=Int×Int×Int) (fun i x (_:Unit)=>if shE (c.Sheets.take i) x != 0 then .inl (2,(i:Int),shE (c.Sheets.take i) x) else .inr ()) l i ()=match shF c l i with|some (i,e) => .inl (2,(i:Int),e)|none => .inr ():=by
 intro l;induction l with
 | nil=>intro i;rfl
 | cons x l ih =>
  intro i;rw [runE,shF];cases shE (c.Sheets.take i) x != 0 with
  | true=>rfl
  | false=>simp only [Zk,if_false];exact ih (i+1)
theorem egF_run (n:Int):∀(l:List Eg) (i:Nat),runE (β:=Int×Int×Int) (fun i x (_:Unit)=>if egE n x != 0 then .inl (3,(i:Int),egE n x) else .inr ()) l i ()=match egF n l i with|some (i,e) => .inl (3,(i:Int),e)|none => .inr ():=by
 intro l;induction l with
 | nil=>intro i;rfl
 | cons x l ih =>
  intro i;rw [runE,egF];cases egE n x != 0 with
  | true=>rfl
  | false=>simp only [Zk,if_false];exact ih (i+1)
theorem e16L1 {k:Nat} {c:Cs} (hk:10≤k) (hn:c.Sheets.length≤5):F168L1 k c k 0=some (match shF c c.Sheets 0 with|some (i,e) => .inl (2,(i:Int),e)|none => .inr ()):=by
 have h:=for_loop (l:=c.Sheets) (L:=F168L1 k c) (σ:=Unit) (fun i _=>(i:Int)) (fun s=>s) (fun i x _=>if shE (c.Sheets.take i) x != 0 then .inl (2,(i:Int),shE (c.Sheets.take i) x) else .inr ()) (fun _ _=>True) (fun _ _ _ _ _ _=>trivial)
  (fun n i s hi _=>by
   have hlen:(c.Sheets.take i).length≤5:=by rw [ZS];omega
   rw [F168L1,if_pos (by simp;omega),idx_nat hi,Za,F50,Za];cases hnm:nameB c.Sheets[i]!.Name with
   | false=>simp only [shE,hnm];rfl
   | true =>
    simp only [Zt,Zk,if_false];rw [sub_take (by omega) (by omega),Za,Int.toNat_natCast,e50 (by omega) (by omega),Za];cases htw:(c.Sheets.take i).any fun x=>x.Name==c.Sheets[i]!.Name with
    | true=>simp only [shE,hnm,htw,if_true];rfl
    | false =>
     simp only [shE,hnm,htw,if_true,Zk,if_false];rw [e48_1 (by omega),Za,e48_1 (by omega)];cases hw:okM 0 20 c.Sheets[i]!.Weight with
     | false=>rfl
     | true =>
      rw [show optG (!!true) (some (!okM 0 6 c.Sheets[i]!.Most))=some (!okM 0 6 c.Sheets[i]!.Most) from rfl,Za];cases hm:okM 0 6 c.Sheets[i]!.Most with
      | false=>rfl
      | true=>simp only [ZI,if_true];rw [w64_id (by omega) (by omega)];rfl)
  (fun n s _=>by rw [F168L1,if_neg (by simp)]) k () trivial (by omega)
 rw [shF_run] at h;rw [show (0:Int)=((0:Nat):Int) from rfl,h];cases shF c c.Sheets 0<;>rfl
theorem e16L2 {k:Nat} {c:Cs} (hk:10≤k) (hn:c.Sheets.length≤5) (hm:c.Edges.length≤8):F168L2 k c k 0=some (match egF c.Sheets.length c.Edges 0 with|some (i,e) => .inl (3,(i:Int),e)|none => .inr ()):=by
 have h:=for_loop (l:=c.Edges) (L:=F168L2 k c) (σ:=Unit) (fun i _=>(i:Int)) (fun s=>s) (fun i x _=>if egE c.Sheets.length x != 0 then .inl (3,(i:Int),egE c.Sheets.length x) else .inr ()) (fun _ _=>True) (fun _ _ _ _ _ _=>trivial)
  (fun n i s hi _=>by
   rw [F168L2,if_pos (by simp;omega),idx_nat hi,Za,w64_id (by omega) (by omega),e48_2 (by omega),Za];cases hab:(okM 0 ((c.Sheets.length:Int)-1) c.Edges[i]!.A&&okM 0 ((c.Sheets.length:Int)-1) c.Edges[i]!.B) with
   | false=>simp only [egE,hab];rfl
   | true =>
    simp only [Zt,Zk,if_false];cases hq:c.Edges[i]!.A==c.Edges[i]!.B with
    | true=>simp only [egE,hab,hq,if_true];rfl
    | false =>
     simp only [Zk,if_false];rw [e48_1 (by omega),Za];cases hl:okM 1 4 c.Edges[i]!.Points.length with
     | false=>simp only [egE,hab,hq,hl];rfl
     | true =>
      have hl':=okN_iff.1 hl;simp only [Zt,Zk,if_false];rw [e52 (by omega) (by omega) (by omega),Za];have hall:(c.Edges[i]!.Points.any fun p => !okP p) = !c.Edges[i]!.Points.all okP:=by rw [List.all_eq_not_any_not,Bool.not_not]
      rw [hall];cases hp:c.Edges[i]!.Points.all okP with
      | false=>simp only [egE,hab,hq,hl,hp];rfl
      | true=>simp only [egE,hab,hq,hl,hp];rw [w64_id (by omega) (by omega)];rfl)
  (fun n s _=>by rw [F168L2,if_neg (by simp)]) k () trivial (by omega)
 rw [egF_run] at h;rw [show (0:Int)=((0:Nat):Int) from rfl,h];cases egF c.Sheets.length c.Edges 0<;>rfl
theorem e16 {k:Nat} (hk:10≤k) (c:Cs):F168 k c=some (chk c):=by
 unfold F168 chk;rw [e48_1 (by omega),Za];cases okM 0 50 c.Tol with
 | false=>rfl
 | true =>
  simp only [Zt,Zk,if_false,if_true];rw [e48_1 (by omega),Za];cases hs:okM 1 5 c.Sheets.length with
  | false=>rfl
  | true =>
   have hs':=okN_iff.1 hs;by_cases he:(c.Edges.length:Int)≤8
   ·rw [if_neg (by simp;omega),if_pos (by simp;omega),e16L1 hk (by omega),Za];cases shF c c.Sheets 0 with
    | some p=>rfl
    | none =>
     simp only [outK];rw [e16L2 hk (by omega) (by omega),Za];cases egF c.Sheets.length c.Edges 0<;>rfl
   ·rw [if_pos (by simp;omega),if_neg (by simp;omega)]
theorem e54b (n lo hi:Int):F94 n lo hi=some (okM lo hi n):=by
 unfold F94 okM;congr 1;rw [Bool.eq_iff_iff];cases h:decide (n≥lo) with
 | true=>simp at h;simp [h]
 | false=>simp at h;simp [h]


theorem e55 {k:Nat} {before:List Sh} {s:Sh} (hk:17≤k) (hb:before.length≤5):F95v1 k s (before.map (·.Name))=some (shE before s):=by
 unfold F95v1 F72 shE;rw [e101 s.Name hk,Za];cases hn:nameB s.Name with
 | false=>rfl
 | true =>
  simp only [Zt,Zk,if_false,if_true];rw [e102 (by simp;omega) (by simp;omega),Za];have hany:=any_isSome (p:=fun x=>x==s.Name) (l:=before.map (·.Name)) (i:=0);rw [List.any_map] at hany;have hany':(before.any fun x=>x.Name==s.Name)=(fstB (fun x=>x==s.Name) (before.map (·.Name)) 0).isSome:=hany.symm;rw [hany'];cases hf:fstB (fun x=>x==s.Name) (before.map (·.Name)) 0 with
  | some j=>simp only [Option.isSome_some,if_true];rw [if_pos (by simp)];rfl
  | none =>
   simp only [Option.isSome_none,Zk,if_false];rw [if_neg (by simp)];simp only [Za,e54b];cases okM 0 20 s.Weight<;>cases okM 0 6 s.Most<;>rfl
theorem e56 {k:Nat} {x:Eg} {n:Int} (hk:10≤k) (h0:0≤n) (h1:n≤5):F96 k x n=some (egE n x):=by
 unfold F96 egE;rw [w64_id (by omega) (by omega),e54b,Za,e54b];cases ha:okM 0 (n-1) x.A with
 | false=>rfl
 | true =>
  rw [show optG (!!true) (some (okM 0 (n-1) x.B))=some (okM 0 (n-1) x.B) from rfl,Za];cases hb:okM 0 (n-1) x.B with
  | false=>rfl
  | true =>
   simp only [Zt,cond_false,Zk,if_false,ZI,if_true];cases hq:x.A==x.B with
   | true=>rfl
   | false =>
    simp only [Zk,if_false];rw [e54b,Za];cases hl:okM 1 4 x.Points.length with
    | false=>rfl
    | true =>
     have hl':=okN_iff.1 hl;simp only [Zt,Zk,if_false,if_true]
     have h:=for_loop (l:=x.Points) (L:=F96L1 x) (β:=Int) (γ:=Unit) (σ:=Unit) (fun i _=>(i:Int)) (fun s=>s) (fun i p _=>if okP p then .inr () else .inl 7) (fun _ _=>True) (fun _ _ _ _ _ _=>trivial)
      (fun n i s hi _=>by
       rw [F96L1,if_pos (by simp;omega),idx_nat hi,Za,e54b,Za];unfold okP;cases hpa:okM 0 9000 x.Points[i]!.A with
       | false=>rfl
       | true =>
        simp only [Zt,Zs,optG_true,Za,e54b,Bool.true_and,cond_false];cases hpb:okM 0 9000 x.Points[i]!.B with
        | false=>rfl
        | true=>simp only [Zt,Zk,if_false,if_true];rw [w64_id (by omega) (by omega)];rfl)
      (fun n s _=>by rw [F96L1,if_neg (by simp)]) k () trivial (by omega)
     rw [show (0:Int)=((0:Nat):Int) from rfl,h,Za]
     have hr:∀(l:List Pt) (i:Nat),runE (β:=Int) (fun i p (_:Unit)=>if okP p then .inr () else .inl 7) l i ()=if l.all okP then .inr () else .inl 7:=by
      intro l;induction l with
      | nil=>intro i;rfl
      | cons p l ih =>
       intro i;rw [runE,List.all_cons];cases okP p with
       | true=>simp only [if_true,Bool.true_and];exact ih (i+1)
       | false=>rfl
     rw [hr];cases x.Points.all okP<;>rfl
theorem e17L1 {k:Nat} {c:Cs} (hk:17≤k) (hn:c.Sheets.length≤5):∃s,F31L1 k c k (0,[])=some (match shF c c.Sheets 0 with|some (i,e) => .inl (2,(i:Int),e)|none => .inr s):=by
 have h:=for_loop (l:=c.Sheets) (L:=F31L1 k c) (σ:=List ByteArray) (fun i s=>((i:Int),s)) (fun s=>s)
  (fun i x s=>if shE (c.Sheets.take i) x != 0 then .inl (2,(i:Int),shE (c.Sheets.take i) x) else .inr (s++[x.Name])) (fun i s=>s=(c.Sheets.take i).map (·.Name))
  (fun i s s' hi hs he=>by
   split at he
   ·simp at he
   ·have he':=Sum.inr.inj he;subst he';subst hs;rw [List.take_succ_eq_append_getElem hi,YF,getElem!_pos c.Sheets i hi]
    rfl)
  (fun n i s hi hs=>by
   subst hs;have hlen:(c.Sheets.take i).length≤5:=by rw [ZS];omega
   rw [F31L1,if_pos (by simp;omega),idx_nat hi,Za,e55 hk hlen,Za];cases shE (c.Sheets.take i) c.Sheets[i]! != 0 with
   | true=>rfl
   | false =>
    simp only [Zk,if_false,Za];rw [need_true (by simp only [Zg,ZF,Z5];omega),Za,w64_id (by omega) (by omega)]
    rfl)
  (fun n s _=>by rw [F31L1,if_neg (by simp)]) k [] rfl (by omega)
 have hr:∀(l:List Sh) (i:Nat) (s:List ByteArray),∃s',runE (β:=Int×Int×Int) (fun i x (s:List ByteArray)=>if shE (c.Sheets.take i) x != 0 then .inl (2,(i:Int),shE (c.Sheets.take i) x) else .inr (s++[x.Name])) l i s=match shF c l i with|some (i,e) => .inl (2,(i:Int),e)|none => .inr s':=by
  intro l;induction l with
  | nil=>intro i s;exact ⟨s,rfl⟩
  | cons x l ih =>
   intro i s;rw [runE,shF];cases shE (c.Sheets.take i) x != 0 with
   | true=>exact ⟨s,rfl⟩
   | false=>simp only [Zk,if_false];exact ih (i+1) _
 obtain ⟨s',hs'⟩:=hr c.Sheets 0 [];rw [hs'] at h;refine ⟨s',?_⟩;rw [show ((0:Int),([]:List ByteArray))=(((0:Nat):Int),[]) from rfl,h];cases shF c c.Sheets 0<;>rfl
theorem e17L2 {k:Nat} {c:Cs} (hk:10≤k) (hn:c.Sheets.length≤5) (hm:c.Edges.length≤8):F31L2 k c k 0=some (match egF c.Sheets.length c.Edges 0 with|some (i,e) => .inl (3,(i:Int),e)|none => .inr ()):=by
 have h:=for_loop (l:=c.Edges) (L:=F31L2 k c) (σ:=Unit) (fun i _=>(i:Int)) (fun s=>s) (fun i x _=>if egE c.Sheets.length x != 0 then .inl (3,(i:Int),egE c.Sheets.length x) else .inr ()) (fun _ _=>True) (fun _ _ _ _ _ _=>trivial)
  (fun n i s hi _=>by
   rw [F31L2,if_pos (by simp;omega),idx_nat hi,Za,e56 hk (by omega) (by omega),Za];cases egE c.Sheets.length c.Edges[i]! != 0 with
   | true=>rfl
   | false=>simp only [Zk,if_false];rw [w64_id (by omega) (by omega)];rfl)
  (fun n s _=>by rw [F31L2,if_neg (by simp)]) k () trivial (by omega)
 rw [egF_run] at h;rw [show (0:Int)=((0:Nat):Int) from rfl,h];cases egF c.Sheets.length c.Edges 0<;>rfl
theorem e17 {k:Nat} (hk:17≤k) (c:Cs):F31 k c=some (chk c):=by
 unfold F31 chk;rw [e54b,Za];cases okM 0 50 c.Tol with
 | false=>rfl
 | true =>
  simp only [Zt,Zk,if_false,if_true];rw [e54b,Za];cases hs:okM 1 5 c.Sheets.length with
  | false=>rfl
  | true =>
   have hs':=okN_iff.1 hs;by_cases he:(c.Edges.length:Int)≤8
   ·obtain ⟨s,h1⟩:=e17L1 (k:=k) (c:=c) hk (by omega);rw [if_neg (by simp;omega),if_pos (by simp;omega),h1,Za];cases shF c c.Sheets 0 with
    | some p=>rfl
    | none =>
     simp only [outK];rw [e17L2 (by omega) (by omega) (by omega),Za];cases egF c.Sheets.length c.Edges 0<;>rfl
   ·rw [if_pos (by simp;omega),if_neg (by simp;omega)]

structure Val (c:Cs):Prop where
 tol:0≤c.Tol∧c.Tol≤50
 sheets:1≤c.Sheets.length∧c.Sheets.length≤5
 edges:c.Edges.length≤8
 sh:∀s∈c.Sheets,0≤s.Weight∧s.Weight≤20∧0≤s.Most∧s.Most≤6
 eg:∀x∈c.Edges,0≤x.A∧x.A<c.Sheets.length∧0≤x.B∧x.B<c.Sheets.length∧x.A≠x.B∧1≤x.Points.length∧x.Points.length≤4∧∀p∈x.Points,0≤p.A∧p.A≤9000∧0≤p.B∧p.B≤9000
theorem egE_zero {n:Int} {x:Eg}:egE n x=0↔0≤x.A∧x.A<n∧0≤x.B∧x.B<n∧x.A≠x.B∧1≤x.Points.length∧x.Points.length≤4∧∀p∈x.Points,0≤p.A∧p.A≤9000∧0≤p.B∧p.B≤9000:=by
 unfold egE
 have hp:x.Points.all okP=true↔∀p∈x.Points,0≤p.A∧p.A≤9000∧0≤p.B∧p.B≤9000:=by
  rw [ZB];constructor
  ·intro h p hp;have:=h p hp;simp only [okP,Zh,okN_iff] at this;exact ⟨this.1.1,this.1.2,this.2.1,this.2.2⟩
  ·intro h p hp;have:=h p hp;simp only [okP,Zh,okN_iff];exact ⟨⟨this.1,this.2.1⟩,this.2.2.1,this.2.2.2⟩
 split
 ·rename_i h1;simp only [Zh,okN_iff] at h1;split
  ·rename_i h2;have:=eq_of_beq h2;constructor
   ·intro h;simp at h
   ·intro h;exact absurd this h.2.2.2.2.1
  ·rename_i h2;have hne:x.A≠x.B:=fun e=>h2 (by rw [e];simp);split
   ·rename_i h3;have h3':=okN_iff.1 h3;split
    ·rename_i h4;exact ⟨fun _=>⟨h1.1.1,by omega,h1.2.1,by omega,hne,by omega,by omega,hp.1 h4⟩,fun _=>rfl⟩
    ·rename_i h4;exact ⟨fun h=>by simp at h,fun h=>absurd (hp.2 h.2.2.2.2.2.2.2) h4⟩
   ·rename_i h3;exact ⟨fun h=>by simp at h,fun h=>absurd (okN_iff.2 ⟨by omega,by omega⟩) h3⟩
 ·rename_i h1;refine ⟨fun h=>by simp at h,fun h=>absurd ?_ h1⟩;simp only [Zh,okN_iff];omega
theorem shF_none {c:Cs}:∀{l:List Sh} {i:Nat},shF c l i=none→∀s∈l,∃before,shE before s=0:=by
 intro l;induction l with
 | nil=>intro i _ s hs;simp at hs
 | cons x l ih =>
  intro i h s hs;rw [shF] at h;split at h
  ·simp at h
  ·rename_i h1;rcases ZM.1 hs with rfl|hs
   ·exact ⟨_,by simpa using h1⟩
   ·exact ih h s hs
theorem egF_none {n:Int}:∀{l:List Eg} {i:Nat},egF n l i=none↔∀x∈l,egE n x=0:=by
 intro l;induction l with
 | nil=>intro i;simp [egF]
 | cons x l ih =>
  intro i;rw [egF];split
  ·rename_i h1;exact ⟨fun h=>by simp at h,fun h=>by have:=h x (by simp);simp [this] at h1⟩
  ·rename_i h1;rw [ih];exact ⟨fun h y hy=>(ZM.1 hy).elim (fun e=>by subst e;simpa using h1) (h y),fun h y hy=>h y (Zz _ hy)⟩
theorem shE_zero {before:List Sh} {s:Sh} (h:shE before s=0):0≤s.Weight∧s.Weight≤20∧0≤s.Most∧s.Most≤6:=by
 unfold shE at h;split at h
 ·split at h
  ·simp at h
  ·split at h
   ·rename_i h1;simp only [Zh,okN_iff] at h1;omega
   ·simp at h
 ·simp at h
theorem chk_err {c:Cs}:(chk c).2.2=0→chk c=(0,0,0):=by
 unfold chk;split
 ·split
  ·split
   ·rename_i i e h;intro he;simp only at he;exfalso
    have:∀{l:List Sh} {j:Nat},shF c l j=some (i,e)→e≠0:=by
     intro l;induction l with
     | nil=>intro j h;simp [shF] at h
     | cons x l ih =>
      intro j h;rw [shF] at h;split at h
      ·rename_i h1;simp only [Zf,Ze] at h;rw [←h.2];simpa using h1
      ·exact ih h
    exact this h he
   ·split
    ·rename_i i e h;intro he;simp only at he;exfalso
     have:∀{l:List Eg} {j:Nat},egF c.Sheets.length l j=some (i,e)→e≠0:=by
      intro l;induction l with
      | nil=>intro j h;simp [egF] at h
      | cons x l ih =>
       intro j h;rw [egF] at h;split at h
       ·rename_i h1;simp only [Zf,Ze] at h;rw [←h.2];simpa using h1
       ·exact ih h
     exact this h he
    ·intro _;rfl
  ·intro h;simp at h
 ·intro h;simp at h
theorem chk_val {c:Cs} (h:chk c=(0,0,0)):Val c:=by
 unfold chk at h;split at h
 ·rename_i h1;split at h
  ·rename_i h2;simp only [Zh,decide_eq_true_eq] at h2;split at h
   ·simp at h
   ·rename_i h3;split at h
    ·simp at h
    ·rename_i h4;have a1:=okN_iff.1 h1;have a2:=okN_iff.1 h2.1;refine ⟨a1,by omega,by omega,fun s hs=>?_,fun x hx=>egE_zero.1 (egF_none.1 h4 x hx)⟩;obtain ⟨b,hb⟩:=shF_none h3 s hs;exact shE_zero hb
  ·simp at h
 ·simp at h

def sumN:Nat→(Nat→Int)→Int
 | 0,_=>0
 | n+1,f=>sumN n f+f n
theorem sumN_congr {f g:Nat→Int}:∀{n:Nat},(∀i,i<n→f i=g i)→sumN n f=sumN n g:=by
 intro n;induction n with
 | zero=>intro _;rfl
 | succ n ih=>intro h;rw [sumN,sumN,ih (fun i hi=>h i (by omega)),h n (by omega)]
theorem foldI_sum {α:Type} [Inhabited α] (g:Nat→α→Int) (l:List α):foldI (fun i x n=>n+g i x) l 0 0=sumN l.length (fun i=>g i l[i]!):=by
 have h:=foldI_inv (l:=l) (fun i x n=>n+g i x) (fun j n=>n=sumN j (fun i=>g i l[i]!)) (fun i s hi hp=>by rw [hp];rfl) 0 rfl;exact h
theorem sumN_bound {f:Nat→Int} {b:Int} (hb:0≤b):∀{n:Nat},(∀i,i<n→0≤f i∧f i≤b)→0≤sumN n f∧sumN n f≤n*b:=by
 intro n;induction n with
 | zero=>intro _;simp [sumN]
 | succ n ih =>
  intro h;have h1:=ih (fun i hi=>h i (by omega));have h2:=h n (by omega);have e:((n+1:Nat):Int)*b=n*b+b:=by rw [Int.natCast_add,Int.add_mul];simp
  rw [sumN,e];omega

def wstep (t:Int) (w:Int×Int) (p:Pt):Int×Int:=(if p.B-p.A-t>w.1 then p.B-p.A-t else w.1,if p.B-p.A+t<w.2 then p.B-p.A+t else w.2)

def want (c:Cs) (x:Eg):Int×Int:=x.Points.foldl (wstep c.Tol) (-18000,18000)
theorem wfold_iff {t:Int}:∀(l:List Pt) (w:Int×Int) (d:Int),((l.foldl (wstep t) w).1≤d∧d≤(l.foldl (wstep t) w).2)↔(w.1≤d∧d≤w.2∧∀p∈l,p.B-p.A-t≤d∧d≤p.B-p.A+t):=by
 intro l;induction l with
 | nil=>intro w d;simp
 | cons p l ih =>
  intro w d;rw [YE,ih];simp only [wstep,ZM,forall_eq_or_imp];constructor
  ·rintro ⟨h1,h2,h3⟩;split at h1<;>split at h2<;>exact ⟨by omega,by omega,⟨by omega,by omega⟩,h3⟩
  ·rintro ⟨h1,h2,h3,h4⟩;refine ⟨?_,?_,h4⟩<;>split<;>omega
theorem wfold_bound {t:Int} (ht:0≤t∧t≤50):∀(l:List Pt),(∀p∈l,0≤p.A∧p.A≤9000∧0≤p.B∧p.B≤9000)→∀(w:Int×Int),(-18000≤w.1∧w.1≤9000)∧(-9000≤w.2∧w.2≤18000) →
 (-18000≤(l.foldl (wstep t) w).1∧(l.foldl (wstep t) w).1≤9000)∧(-9000≤(l.foldl (wstep t) w).2∧(l.foldl (wstep t) w).2≤18000):=by
 intro l;induction l with
 | nil=>intro _ w hw;exact hw
 | cons p l ih =>
  intro hl w hw;rw [YE];have hp:=hl p (by simp);refine ih (fun q hq=>hl q (Zz _ hq)) _ ?_;simp only [wstep];refine ⟨?_,?_⟩<;>split<;>omega
theorem want_bound {c:Cs} (hv:Val c) {x:Eg} (hx:x∈c.Edges) : -18000≤(want c x).1∧(want c x).1≤9000 ∧ -9000≤(want c x).2∧(want c x).2≤18000:=by
 have:=wfold_bound hv.tol x.Points (hv.eg x hx).2.2.2.2.2.2.2 (-18000,18000) ⟨⟨by decide,by decide⟩,by decide,by decide⟩;exact ⟨this.1.1,this.1.2,this.2.1,this.2.2⟩
theorem want_iff {c:Cs} (hv:Val c) {x:Eg} (hx:x∈c.Edges) (d:Int):((want c x).1≤d∧d≤(want c x).2)↔∀p∈x.Points,p.B-p.A-c.Tol≤d∧d≤p.B-p.A+c.Tol:=by
 unfold want;rw [wfold_iff];refine ⟨fun h=>h.2.2,fun h=>⟨?_,?_,h⟩⟩
 all_goals
  have he:=hv.eg x hx;have ht:=hv.tol
  obtain ⟨p,hp⟩:∃p,p∈x.Points:=by
   cases hpp:x.Points with
   | nil=>rw [hpp] at he;simp at he
   | cons p l=>exact ⟨p,by simp⟩
  have h1:=h p hp;have h2:=he.2.2.2.2.2.2.2 p hp;simp only;omega

def lo (c:Cs) (i:Nat):Int:=(want c c.Edges[i]!).1
def hi (c:Cs) (i:Nat):Int:=(want c c.Edges[i]!).2

def wl (c:Cs):List Int:=foldI (fun i x (w:List Int)=>(w.set (0+i*2) (want c x).1).set (0+i*2+1) (want c x).2) c.Edges 0 (List.replicate 16 0)
theorem mem_get {α:Type} [Inhabited α] {l:List α} {i:Nat} (h:i<l.length):l[i]! ∈ l:=by rw [getElem!_pos l i h];exact Yu h
theorem wl_inv {c:Cs} (hv:c.Edges.length≤8):(wl c).length=16∧∀i,i<c.Edges.length→(wl c)[0+i*2]? = some (lo c i)∧(wl c)[0+i*2+1]? = some (hi c i):=by
 have h:=foldI_inv (l:=c.Edges) (fun i x (w:List Int)=>(w.set (0+i*2) (want c x).1).set (0+i*2+1) (want c x).2) (fun j w=>w.length=16∧∀i,i<j→w[0+i*2]? = some (lo c i)∧w[0+i*2+1]? = some (hi c i))
  (fun i w hi' hp=>by
   refine ⟨by simp [hp.1],fun q hq=>?_⟩;rcases Nat.lt_succ_iff_lt_or_eq.1 hq with hlt|rfl
   ·have:=hp.2 q hlt;rw [List.getElem?_set_ne (by omega),List.getElem?_set_ne (by omega),List.getElem?_set_ne (by omega),List.getElem?_set_ne (by omega)];exact this
   ·rw [List.getElem?_set_ne (by omega),List.getElem?_set_self (by rw [hp.1];omega),List.getElem?_set_self (by rw [ZR,hp.1];omega)]
    exact ⟨rfl,rfl⟩) (List.replicate 16 0) ⟨by simp,fun i hi'=>by omega⟩
 exact h
theorem foldI_const {α σ:Type} (g:σ→α→σ):∀(l:List α) (i:Nat) (s:σ),foldI (fun _ x s=>g s x) l i s=l.foldl g s:=by
 intro l;induction l with
 | nil=>intro i s;rfl
 | cons x l ih=>intro i s;rw [foldI,YE];exact ih _ _
theorem e57L2 {k:Nat} {c:Cs} (hk:10≤k) (hv:Val c) {x:Eg} (hx:x∈c.Edges):F108v1L2 c x k (-18000,18000,0)=some (.inr (want c x)):=by
 have he:=hv.eg x hx;have ht:=hv.tol;have hpt:∀i,i<x.Points.length→0≤x.Points[i]!.A∧x.Points[i]!.A≤9000∧0≤x.Points[i]!.B∧x.Points[i]!.B≤9000:=fun i hi=>he.2.2.2.2.2.2.2 _ (mem_get hi)
 have h:=for_fold (l:=x.Points) (L:=F108v1L2 c x) (β:=Int) (σ:=Int×Int) (fun i s=>(s.1,s.2,(i:Int))) (fun s=>s) (fun _ p s=>wstep c.Tol s p) (fun _ _=>True) (fun _ _ _ _=>trivial)
  (fun n i s hi _=>by
   have hp:=hpt i hi;rw [F108v1L2];dsimp only;rw [if_pos (by simp;omega),idx_nat hi,Za,w64_id (n:=x.Points[i]!.B-x.Points[i]!.A) (by omega) (by omega),w64_id (n:=x.Points[i]!.B-x.Points[i]!.A-c.Tol) (by omega) (by omega),w64_id (n:=x.Points[i]!.B-x.Points[i]!.A+c.Tol) (by omega) (by omega),w64_id (by omega) (by omega)]
   rfl)
  (fun n s _=>by rw [F108v1L2,if_neg (by simp)]) k (-18000,18000) trivial (by omega)
 rw [foldI_const] at h;exact h
theorem e57L1 {k:Nat} {c:Cs} (hk:10≤k) (hv:Val c):F108v1L1 k c k (0,List.replicate 16 0)=some (.inr (wl c)):=by
 have h:=for_fold (l:=c.Edges) (L:=F108v1L1 k c) (β:=Int) (σ:=List Int) (fun i s=>((i:Int),s)) (fun s=>s) (fun i x (w:List Int)=>(w.set (0+i*2) (want c x).1).set (0+i*2+1) (want c x).2) (fun _ s=>s.length=16) (fun i s _ hs=>by simp [hs])
  (fun n i s hi hs=>by
   have hm:=hv.edges;rw [F108v1L1,if_pos (by simp;omega),idx_nat hi,Za,e57L2 hk hv (mem_get hi),Za];simp only [outK];rw [need_true (by omega),Za,Int.toNat_natCast,Zd (by omega),Za,Zd (by omega),Za,w64_id (by omega) (by omega)]
   rfl)
  (fun n s _=>by rw [F108v1L1,if_neg (by simp)]) k (List.replicate 16 0) (by simp) (by have:=hv.edges;omega)
 exact h

abbrev look0 (c:Cs):Int×Int×(List Sh)×(List Eg)×(List Int)×(List ((List Int)×Int)):=(0,c.Tol,c.Sheets,c.Edges,wl c,[])
theorem e57_err {k:Nat} {c:Cs} (hk:17≤k) (h:(chk c).2.2≠0):F108v1 k c=some (.inr (chk c).2.2):=by
 unfold F108v1;rw [e16 (by omega),Za,if_pos (by simpa using h)]
theorem e57 {k:Nat} {c:Cs} (hk:17≤k) (h:(chk c).2.2=0):F108v1 k c=some (.inl (look0 c)):=by
 unfold F108v1;rw [e16 (by omega),Za,if_neg (by simpa using h),e57L1 (by omega) (chk_val (chk_err h)),Za];rfl


def inR (c:Cs) (l:List Int):Prop:=l.length=c.Sheets.length∧∀i,i<c.Sheets.length → -c.Sheets[i]!.Most≤l[i]! ∧ l[i]! ≤ c.Sheets[i]!.Most
def okC (c:Cs) (i:Nat) (x:Int):Bool:=okM (-c.Sheets[i]!.Most) c.Sheets[i]!.Most x

def far (c:Cs):List Int→Nat→Bool
 | [],_=>false
 | x::l,i => !okC c i x||far c l (i+1)
theorem most_ok {c:Cs} (hv:Val c) {i:Nat} (hi:i<c.Sheets.length):0≤c.Sheets[i]!.Most∧c.Sheets[i]!.Most≤6∧0≤c.Sheets[i]!.Weight∧c.Sheets[i]!.Weight≤20:=by
 have:=hv.sh _ (mem_get hi);omega

def absI (n:Int):Int:=if 0-n>n then 0-n else n
theorem absI_le {n m:Int}:absI n≤m ↔ -m≤n∧n≤m:=by unfold absI;split<;>omega
theorem absI_nonneg (n:Int):0≤absI n:=by unfold absI;split<;>omega

def agB (c:Cs) (l:List Int) (x:Eg):Bool:=okM (want c x).1 (want c x).2 (l[x.A.toNat]! - l[x.B.toNat]!)

def oddF (c:Cs) (l:List Int):Int:=match fstB (fun x => !agB c l x) c.Edges 0 with|some k=>(k:Int)|none => -1

def near (c:Cs) (l:List Int):Prop:=∀i,i<c.Sheets.length → -1000≤l[i]! ∧ l[i]! ≤ 1000
theorem ends {c:Cs} (hv:Val c) {i:Nat} (hi:i<c.Edges.length):(0≤c.Edges[i]!.A∧c.Edges[i]!.A<c.Sheets.length)∧0≤c.Edges[i]!.B∧c.Edges[i]!.B<c.Sheets.length:=by
 have:=hv.eg _ (mem_get hi);exact ⟨⟨this.1,this.2.1⟩,this.2.2.1,this.2.2.2.1⟩

def cost (c:Cs) (l:List Int):Int:=sumN c.Sheets.length fun i=>c.Sheets[i]!.Weight*absI l[i]!
theorem absI_near {n:Int} (h : -1000≤n∧n≤1000):0≤absI n∧absI n≤1000:=⟨absI_nonneg n,absI_le.2 h⟩
theorem mul_near {a b:Int} (ha:0≤a∧a≤20) (hb:0≤b∧b≤1000):0≤a*b∧a*b≤20000:=by
 refine ⟨Int.mul_nonneg ha.1 hb.1,?_⟩;have:=Int.mul_le_mul ha.2 hb.2 hb.1 (by omega:(0:Int)≤20);omega
theorem get_some {α:Type} [Inhabited α] {l:List α} {i:Nat} (h:i<l.length):l[i]? = some l[i]! := by rw [getElem!_pos l i h,Zd h]
theorem cutN5 {x:List Int} (h:x.length=5):cutN x 0 5=some x:=by
 unfold cutN;rw [if_pos (by omega),List.drop_zero,ZH (by omega)]
theorem e60 {k:Nat} {c:Cs} (hk:10≤k) (hv:Val c) {x:List Int} (hx:x.length=5) (hn:near c x) (t:Int) (m:List (List Int×Int)):F162 k x t c.Sheets c.Edges (wl c) m=some (oddF c x):=by
 unfold F162 oddF;have hm:=hv.edges;have hs:=hv.sheets
 obtain ⟨o,h1,h2⟩:=index_loop (l:=c.Edges) (L:=F162L1 k x c.Edges (wl c)) (p:=fun y => !agB c x y) (by omega)
  (fun n i hi=>by
   have he:=ends hv hi;have hw:=(wl_inv hv.edges).2 i hi;have ha:=hn c.Edges[i]!.A.toNat (by omega);have hb:=hn c.Edges[i]!.B.toNat (by omega)
   rw [F162L1,if_pos (by simp;omega),idx_nat hi,Za,need_true (by omega),Za,Int.toNat_natCast,hw.1,Za,Za,hw.2,Za,need_true (by omega),Za,
    Zw,Yw,get_some (by omega),Za,need_true (by omega),Za,Zw,Yw,get_some (by omega),Za,w64_id (n:=x[c.Edges[i]!.A.toNat]! - x[c.Edges[i]!.B.toNat]!) (by omega) (by omega),e48_1 (by omega),Za]
   rfl)
  (fun n=>by rw [F162L1,if_neg (by simp)]) k (by omega)
 rw [h1,Za,h2];cases fstB (fun y => !agB c x y) c.Edges 0<;>rfl

def KeptOk (c:Cs) (m:List (List Int×Int)):Prop:=∀q∈m,q.1.length=5∧q.2=cost c q.1
theorem mget_kept {c:Cs} {x:List Int} {n:Int}:∀{m:List (List Int×Int)},KeptOk c m→mget eqk188 x m=some n→n=cost c x:=by
 intro m;induction m with
 | nil=>intro _ h;simp [mget] at h
 | cons q m ih =>
  intro hm h;rw [mget] at h;split at h
  ·rename_i he;have he':x=q.1:=eq_of_beq he;have:=(hm q (by simp)).2;simp at h;rw [←h,this,he']
  ·exact ih (fun y hy=>hm y (Zz _ hy)) h
theorem mset_kept {c:Cs} {x:List Int} (hx:x.length=5):∀{m:List (List Int×Int)},KeptOk c m→KeptOk c (mset eqk188 x (cost c x) m):=by
 intro m;induction m with
 | nil=>intro _ q hq;simp [mset] at hq;subst hq;exact ⟨hx,rfl⟩
 | cons q m ih =>
  intro hm y hy;rw [mset] at hy;split at hy
  ·rcases ZM.1 hy with rfl|hy
   ·exact ⟨hx,rfl⟩
   ·exact hm y (Zz _ hy)
  ·rcases ZM.1 hy with rfl|hy
   ·exact hm y (by simp)
   ·exact ih (fun z hz=>hm z (Zz _ hz)) y hy
theorem kept_all {c:Cs} {m:List (List Int×Int)} (h:KeptOk c m):(m.all fun q=>q.1.length==5)=true:=by
 rw [ZB];intro q hq;simpa using (h q hq).1
theorem e63 {k:Nat} {c:Cs} (hk:10≤k) (hv:Val c) {x:List Int} (hx:x.length=5) (hn:near c x) (t:Int) {m:List (List Int×Int)} (hm:KeptOk c m):∃m',F111 k x t c.Sheets c.Edges (wl c) m=some (cost c x,m')∧KeptOk c m':=by
 unfold F111;have hs:=hv.sheets;rw [need_true (wl_inv hv.edges).1,Za,cutN5 hx,Za,need_true hx,Za,need_true (kept_all hm),Za];cases hg:mget eqk188 x m with
 | some n =>
  have:=mget_kept hm hg;subst this;exact ⟨m,rfl,hm⟩
 | none =>
  have hb:∀i,i<c.Sheets.length→0≤c.Sheets[i]!.Weight*absI x[i]! ∧ c.Sheets[i]!.Weight*absI x[i]! ≤ 20000:=fun i hi=>by
   have:=most_ok hv hi;exact mul_near ⟨this.2.2.1,this.2.2.2⟩ (absI_near (hn i hi))
  have h:=for_fold (l:=c.Sheets) (L:=F111L1 x c.Sheets) (β:=Int×List (List Int×Int)) (σ:=Int) (fun i s=>(s,(i:Int))) (fun s=>s) (fun i y s=>s+y.Weight*absI x[i]!) (fun i s=>0≤s∧s≤i*20000)
   (fun i s hi hp=>by have:=hb i hi;constructor<;>omega)
   (fun n i s hi hp=>by
    have:=hb i hi;have hz:=hn i hi;rw [F111L1];dsimp only;rw [if_pos (by simp;omega),idx_nat hi,Za,need_true (by omega),Za,Int.toNat_natCast,Zw,Yw,get_some (by omega),Za,Za,Za,w64_id (n:=0-x[i]!) (by omega) (by omega)];rw [show (if 0-x[i]! > x[i]! then 0-x[i]! else x[i]!)=absI x[i]! from rfl,w64_id (n:=c.Sheets[i]!.Weight*absI x[i]!) (by omega) (by omega),w64_id (n:=s+_) (by omega) (by omega),w64_id (by omega) (by omega)]
    rfl)
   (fun n s _=>by rw [F111L1,if_neg (by simp)]) k 0 ⟨by omega,by omega⟩ (by omega)
  have h':F111L1 x c.Sheets k (0,0)=_:=h;rw [foldI_sum] at h';simp only [Option.isSome_none,Zs,if_true,Yv];rw [h',Za];simp only [outK,Za];refine ⟨mset eqk188 x (cost c x) m,?_,mset_kept hx hm⟩;rw [need_true hx];rfl

def pad (l:List Int):List Int:=l++List.replicate (5-l.length) 0
theorem pad_len {l:List Int} (h:l.length≤5):(pad l).length=5:=by simp [pad];omega
theorem pad_get {l:List Int} {i:Nat} (h:i<l.length):(pad l)[i]! = l[i]! := by
 rw [getElem!_pos (pad l) i (by simp [pad];omega),getElem!_pos l i h];exact List.getElem_append_left h
theorem cost_pad {c:Cs} {l:List Int} (hl:l.length=c.Sheets.length):cost c (pad l)=cost c l:=sumN_congr fun i hi=>by rw [pad_get (by omega)]
abbrev Sp:=S_edge_step
def upd {α:Type} (f:Int→α) (v:Int) (x:α):Int→α:=fun w=>if w=v then x else f w
theorem upd_self {α:Type} {f:Int→α} {v:Int} {x:α}:upd f v x v=x:=if_pos rfl
theorem upd_ne {α:Type} {f:Int→α} {v w:Int} {x:α} (h:w≠v):upd f v x w=f w:=if_neg h

structure BS where
 d:Int→Int
 p:Int→Sp
 t:Int→Nat
 ts:Int→Nat
 clk:Nat
 last:Int
def relax (r:Nat) (s:BS) (x:Sp):BS :=
 if s.d x.from_+x.most<s.d x.to_ then ⟨upd s.d x.to_ (s.d x.from_+x.most),upd s.p x.to_ x,upd s.t x.to_ r,upd s.ts x.to_ (s.clk+1),s.clk+1,x.to_⟩ else s
def rnd (r:Nat) (ls:List Sp) (s:BS):BS:=ls.foldl (relax r) ⟨s.d,s.p,s.t,s.ts,s.clk,-1⟩
structure Iv (ls:List Sp) (s:BS):Prop where
 pin:∀v,0<s.t v→s.p v∈ls∧(s.p v).to_=v
 le:∀v,0<s.t v→s.d (s.p v).from_+(s.p v).most≤s.d v
 lt:∀v,0<s.t v→s.ts v<s.ts (s.p v).from_→s.d (s.p v).from_+(s.p v).most<s.d v
 tt:∀v,0<s.t v→s.t v≤s.t (s.p v).from_+1
 cl:∀v,s.ts v≤s.clk
 pos:∀v,0<s.t v↔0<s.ts v
 inj:∀v w,0<s.ts v→s.ts v=s.ts w→v=w
theorem Iv.rel {ls:List Sp} {s:BS} (h:Iv ls s) {r:Nat} (hr:1≤r) {x:Sp} (hx:x∈ls) (hne:x.from_≠x.to_) (hle:∀v,s.t v≤r) (hj:s.d x.from_+x.most<s.d x.to_→r≤s.t x.from_+1):Iv ls (relax r s x):=by
 unfold relax;by_cases hc:s.d x.from_+x.most<s.d x.to_
 ·rw [if_pos hc];have hfr:upd s.d x.to_ (s.d x.from_+x.most) x.from_=s.d x.from_:=upd_ne hne;constructor
  ·intro v hv;by_cases e:v=x.to_
   ·subst e;simp only [upd_self];exact ⟨hx,trivial⟩
   ·simp only [upd_ne e] at hv ⊢;exact h.pin v hv
  ·intro v hv;by_cases e:v=x.to_
   ·subst e;simp only [upd_self,upd_ne hne];exact YD _
   ·simp only [upd_ne e] at hv ⊢;have:=h.le v hv;by_cases e2:(s.p v).from_=x.to_
    ·rw [e2] at this ⊢;rw [upd_self];omega
    ·rw [upd_ne e2];exact this
  ·intro v hv;by_cases e:v=x.to_
   ·subst e;simp only [upd_self,upd_ne hne];intro hlt;have:=h.cl x.from_;omega
   ·simp only [upd_ne e] at hv ⊢;by_cases e2:(s.p v).from_=x.to_
    ·intro _;have:=h.le v hv;rw [e2] at this ⊢;rw [upd_self];omega
    ·rw [upd_ne e2,upd_ne e2];exact h.lt v hv
  ·intro v hv;by_cases e:v=x.to_
   ·subst e;simp only [upd_self,upd_ne hne];exact hj hc
   ·simp only [upd_ne e] at hv ⊢;by_cases e2:(s.p v).from_=x.to_
    ·rw [e2,upd_self];have:=hle v;omega
    ·rw [upd_ne e2];exact h.tt v hv
  ·intro v;by_cases e:v=x.to_
   ·subst e;simp only [upd_self];omega
   ·simp only [upd_ne e];have:=h.cl v;omega
  ·intro v;by_cases e:v=x.to_
   ·subst e;simp only [upd_self];omega
   ·simp only [upd_ne e];exact h.pos v
  ·intro v w hv hvw;by_cases e:v=x.to_<;>by_cases e2:w=x.to_
   ·rw [e,e2]
   ·subst e;simp only [upd_self,upd_ne e2] at hvw;have:=h.cl w;omega
   ·subst e2;simp only [upd_self,upd_ne e] at hvw;have:=h.cl v;omega
   ·simp only [upd_ne e,upd_ne e2] at hv hvw;exact h.inj v w hv hvw
 ·rw [if_neg hc];exact h

structure Rv (ls:List Sp) (r:Nat) (pre:List Sp) (s:BS):Prop where
 iv:Iv ls s
 top:∀v,s.t v≤r
 old:∀x∈ls,s.t x.from_+1<r→s.d x.to_≤s.d x.from_+x.most
 new:∀x∈pre,s.t x.from_<r→s.d x.to_≤s.d x.from_+x.most
 lst:(s.last = -1∧∀v,s.t v<r)∨(s.t s.last=r∧∃x∈ls,x.to_=s.last)
theorem Rv.step {ls:List Sp} {r:Nat} (hr:1≤r) {pre:List Sp} {s:BS} (h:Rv ls r pre s) {x:Sp} (hx:x∈ls) (hne:x.from_≠x.to_):Rv ls r (pre++[x]) (relax r s x):=by
 have hj:s.d x.from_+x.most<s.d x.to_→r≤s.t x.from_+1:=by
  intro hc;apply Nat.le_of_not_lt;intro hlt;have:=h.old x hx hlt;omega
 have hiv:=h.iv.rel hr hx hne h.top hj;refine ⟨hiv,?_,?_,?_,?_⟩<;>unfold relax<;>by_cases hc:s.d x.from_+x.most<s.d x.to_
 ·rw [if_pos hc];intro v;by_cases e:v=x.to_
  ·subst e;simp only [upd_self];omega
  ·simp only [upd_ne e];exact h.top v
 ·rw [if_neg hc];exact h.top
 ·rw [if_pos hc];intro y hy;simp only;by_cases e:y.from_=x.to_
  ·rw [e,upd_self];omega
  ·rw [upd_ne e,upd_ne e];intro hlt;have:=h.old y hy hlt;by_cases e2:y.to_=x.to_
   ·rw [e2,upd_self];rw [e2] at this;omega
   ·rw [upd_ne e2];exact this
 ·rw [if_neg hc];exact h.old
 ·rw [if_pos hc];intro y hy;simp only;by_cases e:y.from_=x.to_
  ·rw [e,upd_self];omega
  ·rw [upd_ne e,upd_ne e];intro hlt;rcases Z4.1 hy with hy|hy
   ·have:=h.new y hy hlt;by_cases e2:y.to_=x.to_
    ·rw [e2,upd_self];rw [e2] at this;omega
    ·rw [upd_ne e2];exact this
   ·rw [Zq] at hy;subst hy;rw [upd_self];omega
 ·rw [if_neg hc];intro y hy hlt;rcases Z4.1 hy with hy|hy
  ·exact h.new y hy hlt
  ·rw [Zq] at hy;subst hy;omega
 ·rw [if_pos hc];exact .inr ⟨by simp only [upd_self],x,hx,rfl⟩
 ·rw [if_neg hc];exact h.lst
theorem Rv.fold {ls:List Sp} {r:Nat} (hr:1≤r) (hne:∀x∈ls,x.from_≠x.to_):∀(suf pre:List Sp) (s:BS),ls=pre++suf→Rv ls r pre s→Rv ls r ls (suf.foldl (relax r) s):=by
 intro suf;induction suf with
 | nil=>intro pre s h hs;rw [Yh] at h;subst h;exact hs
 | cons x suf ih =>
  intro pre s h hs;have hx:x∈ls:=by rw [h];simp
  exact ih (pre++[x]) _ (by simp [h]) (hs.step hr hx (hne x hx))

structure Bv (ls:List Sp) (r:Nat) (s:BS):Prop where
 iv:Iv ls s
 top:∀v,s.t v≤r
 old:∀x∈ls,s.t x.from_<r→s.d x.to_≤s.d x.from_+x.most
theorem Bv.next {ls:List Sp} {r:Nat} (hne:∀x∈ls,x.from_≠x.to_) {s:BS} (h:Bv ls r s):Rv ls (r+1) ls (rnd (r+1) ls s):=by
 refine Rv.fold (by omega) hne ls [] _ rfl ⟨⟨h.iv.pin,h.iv.le,h.iv.lt,h.iv.tt,h.iv.cl,h.iv.pos,h.iv.inj⟩,fun v=>?_,fun x hx hlt=>h.old x hx (by dsimp only at hlt;omega),fun x hx=>by simp at hx,.inl ⟨rfl,fun v=>?_⟩⟩
 ·have:=h.top v;simp only;omega
 ·have:=h.top v;simp only;omega
theorem Rv.bv {ls:List Sp} {r:Nat} {s:BS} (h:Rv ls r ls s):Bv ls r s:=⟨h.iv,h.top,h.new⟩

theorem Rv.still {ls:List Sp} {r:Nat} {s:BS} (h:Rv ls r ls s) (hl:s.last = -1) (hn:∀x∈ls,x.to_ ≠ -1):∀x∈ls,s.d x.to_≤s.d x.from_+x.most:=by
 rcases h.lst with ⟨_,h1⟩|⟨_,x,hx,h1⟩
 ·exact fun x hx=>h.new x hx (h1 _)
 ·exact absurd (h1.trans hl) (hn x hx)

def prev (s:BS) (v:Int):Int:=(s.p v).from_
def back (s:BS):Nat→Int→Int
 | 0,v=>v
 | n+1,v=>back s n (prev s v)
theorem back_succ (s:BS):∀(n:Nat) (v:Int),back s (n+1) v=prev s (back s n v):=by
 intro n;induction n with
 | zero=>intro v;rfl
 | succ n ih=>intro v;rw [back,ih,←back]
theorem back_add (s:BS) (m:Nat):∀(n:Nat) (v:Int),back s (n+m) v=back s m (back s n v):=by
 intro n;induction n with
 | zero=>intro v;rw [Zw];rfl
 | succ n ih=>intro v;rw [show n+1+m=(n+m)+1 by omega,back,ih];rfl
theorem back_t {ls:List Sp} {s:BS} (h:Iv ls s) (v:Int):∀n,n<s.t v→s.t v≤s.t (back s n v)+n:=by
 intro n;induction n with
 | zero=>intro _;exact Zx _
 | succ n ih =>
  intro hn;have h1:=ih (by omega);have h2:=h.tt (back s n v) (by omega);rw [back_succ];unfold prev;omega

theorem pigeon:∀(m:Nat) (f:Nat→Int),(∀k,k≤m→0≤f k∧f k<m)→∃i j,i<j∧j≤m∧f i=f j:=by
 intro m;induction m with
 | zero=>intro f h;have:=h 0 (Zx _);omega
 | succ m ih =>
  intro f h;by_cases hx:∃i,i≤m∧f i=f (m+1)
  ·obtain ⟨i,h1,h2⟩:=hx;exact ⟨i,m+1,by omega,Zx _,h2⟩
  ·
   have hne:∀i,i≤m→f i≠f (m+1):=fun i hi e=>hx ⟨i,hi,e⟩;have hl:=h (m+1) (Zx _)
   obtain ⟨i,j,h1,h2,h3⟩:=ih (fun k=>if f k=m then f (m+1) else f k) (fun k hk=>by
    have h1:=h k (by omega);have h2:=hne k hk
    split<;>omega)
   refine ⟨i,j,h1,by omega,?_⟩;have a1:=hne i (by omega);have a2:=hne j (by omega);split at h3<;>split at h3
   ·omega
   ·exact absurd h3.symm a2
   ·exact absurd h3 a1
   ·exact h3

def wayN (s:BS):Nat→Int→Int
 | 0,_=>0
 | n+1,v=>(s.p v).most+wayN s n (prev s v)
theorem way_le {ls:List Sp} {s:BS} (h:Iv ls s):∀(n:Nat) (v:Int),(∀k,k<n→0<s.t (back s k v))→s.d (back s n v)+wayN s n v≤s.d v:=by
 intro n;induction n with
 | zero=>intro v _;simp [back,wayN]
 | succ n ih =>
  intro v hv;have h1:=h.le v (hv 0 (by omega));have h2:=ih (prev s v) (fun k hk=>hv (k+1) (by omega));rw [back,wayN];unfold prev at *;omega
theorem way_lt {ls:List Sp} {s:BS} (h:Iv ls s) (hne:∀x∈ls,x.from_≠x.to_) {n:Nat} (hn:1≤n) {v:Int} (hv:∀k,k<n→0<s.t (back s k v)) (hc:back s n v=v):wayN s n v<0:=by

 have hex:∃k,k<n∧s.ts (back s k v)<s.ts (prev s (back s k v)):=by
  apply Classical.byContradiction;intro hno;have hall:∀k,k<n→s.ts (prev s (back s k v))≤s.ts (back s k v):=fun k hk=>Nat.le_of_not_lt fun hlt=>hno ⟨k,hk,hlt⟩
  have hmono:∀k,k≤n→∀j,j≤k→s.ts (back s k v)≤s.ts (back s j v):=by
   intro k;induction k with
   | zero =>
    intro _ j hj;have:j=0:=by omega
    subst this;exact Zx _
   | succ k ih =>
    intro hk j hj;rcases Nat.lt_or_ge j (k+1) with hlt|hge
    ·have h1:=hall k (by omega);rw [←back_succ] at h1;exact Z3 h1 (ih (by omega) j (by omega))
    ·have:j=k+1:=by omega
     subst this;exact Zx _
  have e1:=hmono n (Zx _) 1 hn;have e2:=hmono 1 hn 0 (by omega);rw [hc] at e1;have e3:s.ts (back s 1 v)=s.ts (back s 0 v):=by simp only [back] at *;omega
  have hp:=(h.pos v).1 (hv 0 (by omega));have e4:=h.inj v (prev s v) hp (by simpa [back] using e3.symm);have hpin:=h.pin v (hv 0 (by omega));exact hne _ hpin.1 (by rw [hpin.2];exact e4.symm)
 obtain ⟨k,hk,hlt⟩:=hex

 have h1:=way_le h k v (fun j hj=>hv j (by omega));have h2:=h.lt (back s k v) (hv k hk) hlt;have h3:=way_le h (n-(k+1)) (back s (k+1) v) (fun j hj=>by rw [←back_add];exact hv _ (by omega));rw [←back_add,show k+1+(n-(k+1))=n by omega,hc] at h3
 have hsum:∀(a b:Nat) (v:Int),wayN s (a+b) v=wayN s a v+wayN s b (back s a v):=by
  intro a;induction a with
  | zero=>intro b v;simp [wayN,back]
  | succ a ih=>intro b v;rw [show a+1+b=(a+b)+1 by omega,wayN,ih,wayN,back];omega
 have e:=hsum k (1+(n-(k+1))) v;rw [show k+(1+(n-(k+1)))=n by omega,hsum 1] at e;have e5:wayN s 1 (back s k v)=(s.p (back s k v)).most:=by simp [wayN]
 have e6:back s 1 (back s k v)=back s (k+1) v:=by rw [back_add]
 have e7:s.d (back s (k+1) v)=s.d (s.p (back s k v)).from_:=by rw [back_succ];rfl
 rw [e5,e6] at e;omega

theorem comes_round {ls:List Sp} {n:Nat} {s:BS} (h:Rv ls (n+2) ls s) (hl:s.last ≠ -1) (hnode:∀x∈ls,(0≤x.from_∧x.from_≤n)∧0≤x.to_∧x.to_≤n) :
 ∃L,1≤L∧L≤n+1∧(∀k,k≤n+1+L→0<s.t (back s k s.last)∧0≤back s k s.last∧back s k s.last≤n)∧back s L (back s (n+1) s.last)=back s (n+1) s.last:=by
 rcases h.lst with ⟨h1,_⟩|⟨ht,y,hy,hto⟩
 ·exact absurd h1 hl
 have hpos:∀k,k≤n+1→0<s.t (back s k s.last):=by
  intro k hk;have:=back_t h.iv s.last k (by omega);omega
 have hin:∀k,k≤n+1→0≤back s k s.last∧back s k s.last≤n:=by
  intro k hk;have hp:=h.iv.pin _ (hpos k hk);have:=(hnode _ hp.1).2;rw [hp.2] at this;exact this
 obtain ⟨i,j,hij,hj,he⟩:=pigeon (n+1) (fun k=>back s k s.last) (fun k hk=>by have:=hin k hk;omega);have hper:∀q,back s (j+q) s.last=back s (i+q) s.last:=fun q=>by rw [back_add,back_add];rw [show back s j s.last=back s i s.last from he.symm]
 refine ⟨j-i,by omega,by omega,?_,?_⟩
 ·intro k hk;by_cases hle:k≤n+1
  ·exact ⟨hpos k hle,hin k hle⟩
  ·have e:=hper (k-j);rw [show j+(k-j)=k by omega] at e;rw [e];exact ⟨hpos _ (by omega),hin _ (by omega)⟩
 ·rw [←back_add,show n+1+(j-i)=j+(n+1-i) by omega,hper];congr 1;omega

def keep (w:Int) (i:Nat):Bool:=(Go.bits .and .i64 (w / 2^min i 64) 1)==0
theorem keep0 (i:Nat):keep 0 i=true:=by
 unfold keep;rw [Int.zero_ediv];rfl
def stA (c:Cs) (i:Nat):Sp:=⟨c.Edges[i]!.B,c.Edges[i]!.A,hi c i,i,-1⟩
def stB (c:Cs) (i:Nat):Sp:=⟨c.Edges[i]!.A,c.Edges[i]!.B,0-lo c i,i,1⟩
def stU (c:Cs) (i:Nat):Sp:=⟨c.Sheets.length,i,c.Sheets[i]!.Most,-1,0⟩
def stD (c:Cs) (i:Nat):Sp:=⟨i,c.Sheets.length,c.Sheets[i]!.Most,-1,0⟩
def lsE (c:Cs) (w:Int):List Sp:=foldI (fun i x (s:List Sp)=>if keep w i then s++[⟨x.B,x.A,(want c x).2,i,-1⟩,⟨x.A,x.B,w64 (0-(want c x).1),i,1⟩] else s) c.Edges 0 []
def lsA (c:Cs) (w:Int):List Sp:=foldI (fun i x (s:List Sp)=>s++[⟨c.Sheets.length,i,x.Most,-1,0⟩,⟨i,c.Sheets.length,x.Most,-1,0⟩]) c.Sheets 0 (lsE c w)
theorem mem_lsE {c:Cs} (hv:Val c) {w:Int}:(∀y,y∈lsE c w↔∃i,i<c.Edges.length∧keep w i=true∧(y=stA c i∨y=stB c i))∧(lsE c w).length≤2*c.Edges.length:=by
 unfold lsE;refine foldI_inv (l:=c.Edges) _ (fun j (s:List Sp)=>(∀y,y∈s↔∃i,i<j∧keep w i=true∧(y=stA c i∨y=stB c i))∧s.length≤2*j) ?_ [] ⟨fun y=>⟨fun h=>by simp at h,fun ⟨i,h,_⟩=>by omega⟩,by simp⟩;intro i s hi' hp;have hb:=want_bound hv (mem_get hi');have hw:w64 (0-(want c c.Edges[i]!).1)=0-(want c c.Edges[i]!).1:=w64_id (by omega) (by omega);cases hk:keep w i with
 | true =>
  simp only [hk,if_true,ZE,ZF,Z5];refine ⟨fun y=>?_,by omega⟩;rw [Z4,hp.1,hw];constructor
  ·rintro (⟨q,h1,h2⟩|h)
   ·exact ⟨q,by omega,h2⟩
   ·simp only [ZM,List.not_mem_nil,or_false] at h;exact ⟨i,by omega,hk,h⟩
  ·rintro ⟨q,h1,h2,h3⟩;by_cases hq:q=i
   ·subst hq;right;simp only [ZM,List.not_mem_nil,or_false];exact h3
   ·exact .inl ⟨q,by omega,h2,h3⟩
 | false =>
  simp only [hk,Zk,if_false];refine ⟨fun y=>?_,by omega⟩;rw [hp.1];constructor
  ·rintro ⟨q,h1,h2⟩;exact ⟨q,by omega,h2⟩
  ·rintro ⟨q,h1,h2,h3⟩;by_cases hq:q=i
   ·subst hq;rw [hk] at h2;simp at h2
   ·exact ⟨q,by omega,h2,h3⟩
theorem mem_lsA {c:Cs} (hv:Val c) {w:Int}:(∀y,y∈lsA c w↔(∃i,i<c.Edges.length∧keep w i=true∧(y=stA c i∨y=stB c i))∨∃i,i<c.Sheets.length∧(y=stU c i∨y=stD c i))∧(lsA c w).length≤26:=by
 have h:=foldI_inv (l:=c.Sheets) (fun i x (s:List Sp)=>s++[⟨c.Sheets.length,i,x.Most,-1,0⟩,⟨i,c.Sheets.length,x.Most,-1,0⟩]) (fun j (s:List Sp)=>(∀y,y∈s↔y∈lsE c w∨∃i,i<j∧(y=stU c i∨y=stD c i))∧s.length≤(lsE c w).length+2*j)
  (fun i s hi' hp=>by
   simp only [ZE,ZF,Z5];refine ⟨fun y=>?_,by omega⟩;rw [Z4,hp.1];constructor
   ·rintro ((h|⟨q,h1,h2⟩)|h)
    ·exact .inl h
    ·exact .inr ⟨q,by omega,h2⟩
    ·simp only [ZM,List.not_mem_nil,or_false] at h;exact .inr ⟨i,by omega,h⟩
   ·rintro (h|⟨q,h1,h2⟩)
    ·exact .inl (.inl h)
    ·by_cases hq:q=i
     ·subst hq;right;simp only [ZM,List.not_mem_nil,or_false];exact h2
     ·exact .inl (.inr ⟨q,by omega,h2⟩)) (lsE c w) ⟨fun y=>⟨fun h => .inl h,fun h=>h.elim id fun ⟨i,h,_⟩=>by omega⟩,by omega⟩
 have h2:=mem_lsE hv (w:=w);have hs:=hv.sheets;have he:=hv.edges;refine ⟨fun y=>?_,?_⟩
 ·have:=h.1 y;rw [h2.1] at this;exact this
 ·have h3:(lsA c w).length≤(lsE c w).length+2*c.Sheets.length:=h.2;omega
theorem e86 {k:Nat} {c:Cs} (hk:10≤k) (hv:Val c) {w:Int} (t:Int) (m:List (List Int×Int)):F195 k w t c.Sheets c.Edges (wl c) m=some (lsA c w):=by
 have hs:=hv.sheets;have he:=hv.edges
 have h1:=for_fold (l:=c.Edges) (L:=F195L1 w c.Edges (wl c)) (β:=List Sp) (σ:=List Sp) (fun i s=>((i:Int),s)) (fun s=>s) (fun i x (s:List Sp)=>if keep w i then s++[⟨x.B,x.A,(want c x).2,i,-1⟩,⟨x.A,x.B,w64 (0-(want c x).1),i,1⟩] else s) (fun i s=>s.length≤2*i)
  (fun i s hi' hp=>by
   split
   ·simp;omega
   ·omega)
  (fun n i s hi' hp=>by
   have hw:=(wl_inv hv.edges).2 i hi';rw [F195L1];dsimp only;rw [if_pos (by simp;omega),idx_nat hi',Za,need_true (by omega),Za,Int.toNat_natCast,show (Go.bits .and .i64 (w / 2^min i 64) 1==0)=keep w i from rfl];cases hk:keep w i with
   | true =>
    rw [if_pos rfl,need_true (by omega),Za,hw.2,Za,Za,hw.1,Za,need_true (by simp;omega),Za,if_pos rfl,w64_id (n:=(i:Int)+1) (by omega) (by omega)];rfl
   | false =>
    rw [if_neg (by simp),if_neg (by simp),w64_id (n:=(i:Int)+1) (by omega) (by omega)]
    rfl)
  (fun n s _=>by rw [F195L1,if_neg (by simp)]) k [] (by simp) (by omega)
 have h2:=for_fold (l:=c.Sheets) (L:=F195L2 c.Sheets) (β:=List Sp) (σ:=List Sp) (fun i s=>((i:Int),s)) (fun s=>s) (fun i x (s:List Sp)=>s++[⟨c.Sheets.length,i,x.Most,-1,0⟩,⟨i,c.Sheets.length,x.Most,-1,0⟩]) (fun i s=>s.length≤16+2*i)
  (fun i s hi' hp=>by simp;omega)
  (fun n i s hi' hp=>by
   rw [F195L2];dsimp only;rw [if_pos (by simp;omega),idx_nat hi',Za,need_true (by simp;omega),Za,w64_id (n:=(i:Int)+1) (by omega) (by omega)]
   rfl)
  (fun n s _=>by rw [F195L2,if_neg (by simp)]) k (lsE c w) (by have:=(mem_lsE hv (w:=w)).2;omega) (by omega)
 unfold F195;rw [show ((0:Int),([]:List Sp))=(((0:Nat):Int),[]) from rfl,h1,Za];simp only [outK];rw [show F195L2 c.Sheets k (0,foldI (fun i x (s:List Sp)=>if keep w i then s++[⟨x.B,x.A,(want c x).2,i,-1⟩,⟨x.A,x.B,w64 (0-(want c x).1),i,1⟩] else s) c.Edges 0 [])=F195L2 c.Sheets k (((0:Nat):Int),lsE c w) from rfl,h2,Za];rfl

def Pot (ls:List Sp) (y:Int→Int):Prop:=∀x∈ls,y x.to_-y x.from_≤x.most

structure Cyc (ls:List Sp) (rl:List Sp) (b:Nat→Int):Prop where
 pos:1≤rl.length
 mem:∀j,j<rl.length→rl[j]! ∈ ls∧rl[j]!.to_=b j∧rl[j]!.from_=b (j+1)
 back:b rl.length=b 0
 inj:∀i j,i<j→j<rl.length→b i≠b j
 neg:sumN rl.length (fun j=>rl[j]!.most)<0
 len:rl.length≤100
theorem sumN_le {f g:Nat→Int}:∀{n:Nat},(∀i,i<n→f i≤g i)→sumN n f≤sumN n g:=by
 intro n;induction n with
 | zero=>intro _;exact YD _
 | succ n ih=>intro h;have h1:=ih (fun i hi=>h i (by omega));have h2:=h n (by omega);rw [sumN,sumN];omega
theorem Cyc.none {ls rl:List Sp} {b:Nat→Int} (h:Cyc ls rl b) {y:Int→Int} (hy:Pot ls y):False:=by
 have h1:sumN rl.length (fun j=>y (b j)-y (b (j+1)))≤sumN rl.length (fun j=>rl[j]!.most):=sumN_le fun j hj=>by
  have h2:=h.mem j hj;have:=hy _ h2.1;rw [h2.2.1,h2.2.2] at this;exact this
 have h3:∀n,sumN n (fun j=>y (b j)-y (b (j+1)))=y (b 0)-y (b n):=by
  intro n;induction n with
  | zero=>simp [sumN]
  | succ n ih=>rw [sumN,ih];omega
 rw [h3,h.back] at h1;have:=h.neg;omega

structure RepE (n:Nat) (s:BS) (q:Int×List Int×List Sp):Prop where
 lst:q.1=s.last
 dl:q.2.1.length=n+1
 pl:q.2.2.length=n+1
 dv:∀v:Nat,v≤n→q.2.1[v]! = s.d v
 pv:∀v:Nat,v≤n→q.2.2[v]! = s.p v
def relaxL (s:Int×List Int×List Sp) (x:Sp):Int×List Int×List Sp :=
 if w64 (s.2.1[x.from_.toNat]! + x.most)<s.2.1[x.to_.toNat]! then (x.to_,s.2.1.set x.to_.toNat (w64 (s.2.1[x.from_.toNat]! + x.most)),s.2.2.set x.to_.toNat x) else s
structure Nodes (n:Nat) (ls:List Sp):Prop where
 frm:∀x∈ls,0≤x.from_∧x.from_≤n
 to:∀x∈ls,0≤x.to_∧x.to_≤n
 ne:∀x∈ls,x.from_≠x.to_
 bd:∀x∈ls,-18000≤x.most∧x.most≤18000
theorem nodes {c:Cs} (hv:Val c) (w:Int):Nodes c.Sheets.length (lsA c w):=by
 have key:∀x∈lsA c w,(0≤x.from_∧x.from_≤c.Sheets.length)∧(0≤x.to_∧x.to_≤c.Sheets.length)∧x.from_≠x.to_ ∧ -18000≤x.most∧x.most≤18000:=by
  intro x hx;rcases ((mem_lsA hv).1 x).1 hx with ⟨i,h1,_,h2⟩|⟨i,h1,h2⟩
  ·have he:=hv.eg _ (mem_get h1);have hb:=want_bound hv (mem_get h1);rcases h2 with rfl|rfl
   ·simp only [stA,hi];refine ⟨⟨?_,?_⟩,⟨?_,?_⟩,?_,?_,?_⟩<;>omega
   ·simp only [stB,lo];refine ⟨⟨?_,?_⟩,⟨?_,?_⟩,?_,?_,?_⟩<;>omega
  ·have hm:=most_ok hv h1;rcases h2 with rfl|rfl
   ·simp only [stU];refine ⟨⟨?_,?_⟩,⟨?_,?_⟩,?_,?_,?_⟩<;>omega
   ·simp only [stD];refine ⟨⟨?_,?_⟩,⟨?_,?_⟩,?_,?_,?_⟩<;>omega
 exact ⟨fun x hx=>(key x hx).1,fun x hx=>(key x hx).2.1,fun x hx=>(key x hx).2.2.1,fun x hx=>(key x hx).2.2.2⟩
def BdE (q:Int) (s:BS):Prop:=∀v,-(18000*q)≤s.d v∧s.d v≤1048576
theorem RepE.rel {n:Nat} {ls:List Sp} (hn:Nodes n ls) {s:BS} {q:Int×List Int×List Sp} (h:RepE n s q) {b:Int} (hb:BdE b s) (hb0:0≤b∧b≤1000) (r:Nat) {x:Sp} (hx:x∈ls):RepE n (relax r s x) (relaxL q x)∧BdE (b+1) (relax r s x):=by
 have h1:=hn.frm x hx;have h2:=hn.to x hx;have h3:=hn.bd x hx;have hbf:=hb x.from_;have e1:q.2.1[x.from_.toNat]! = s.d x.from_:=by rw [h.dv _ (by omega)];congr 1;omega
 have e2:q.2.1[x.to_.toNat]! = s.d x.to_:=by rw [h.dv _ (by omega)];congr 1;omega
 unfold relaxL relax;rw [e1,e2,w64_id (by omega) (by omega)];by_cases hc:s.d x.from_+x.most<s.d x.to_
 ·rw [if_pos hc,if_pos hc];have hbt:=hb x.to_;have hd:=h.dl;have hp:=h.pl;refine ⟨⟨rfl,by simp [h.dl],by simp [h.pl],fun v hv=>?_,fun v hv=>?_⟩,fun v=>?_⟩
  ·simp only;rw [get_set (by omega) (by omega)];by_cases e:x.to_.toNat=v
   ·have:(v:Int)=x.to_:=by omega
    rw [if_pos e,this,upd_self]
   ·rw [if_neg e,upd_ne (by omega),h.dv v hv]
  ·simp only;rw [get_set (by omega) (by omega)];by_cases e:x.to_.toNat=v
   ·have:(v:Int)=x.to_:=by omega
    rw [if_pos e,this,upd_self]
   ·rw [if_neg e,upd_ne (by omega),h.pv v hv]
  ·simp only;have:=hb v;by_cases e:v=x.to_
   ·subst e;rw [upd_self];omega
   ·rw [upd_ne e];omega
 ·rw [if_neg hc,if_neg hc];exact ⟨h,fun v=>by have:=hb v;omega⟩
theorem RepE.fold {n:Nat} {ls:List Sp} (hn:Nodes n ls) (r:Nat):∀(suf:List Sp) (s:BS) (q:Int×List Int×List Sp) (b:Int),(∀x∈suf,x∈ls)→RepE n s q→BdE b s→0≤b→b+suf.length≤1000→RepE n (suf.foldl (relax r) s) (suf.foldl relaxL q)∧BdE (b+suf.length) (suf.foldl (relax r) s):=by
 intro suf;induction suf with
 | nil=>intro s q b _ h1 h2 _ _;exact ⟨h1,by simpa using h2⟩
 | cons x suf ih =>
  intro s q b hs h1 h2 h3 h4;simp only [ZF] at h4;have h5:=h1.rel hn h2 ⟨h3,by omega⟩ r (hs x (by simp));have h6:=ih (relax r s x) (relaxL q x) (b+1) (fun y hy=>hs y (Zz _ hy)) h5.1 h5.2 (by omega) (by omega);rw [YE,YE];refine ⟨h6.1,?_⟩;have:=h6.2;rw [show b+1+(suf.length:Int)=b+((x::suf).length:Int) by simp only [ZF];omega] at this;exact this

def Wv (ls:List Sp) (n:Nat) (f:Int) (s:BS):Prop:=(∀y,Pot ls y→∀v:Int,0≤v→v≤n→y v-y f≤s.d v)∧s.d f≤0
theorem Wv.rel {n:Nat} {ls:List Sp} (hn:Nodes n ls) {f:Int} {s:BS} (h:Wv ls n f s) (r:Nat) {x:Sp} (hx:x∈ls):Wv ls n f (relax r s x):=by
 unfold relax;by_cases hc:s.d x.from_+x.most<s.d x.to_
 ·rw [if_pos hc];have h1:=hn.frm x hx;refine ⟨fun y hy v h0 h9=>?_,?_⟩
  ·simp only;by_cases e:v=x.to_
   ·subst e;rw [upd_self];have h2:=hy x hx;have h3:=h.1 y hy x.from_ h1.1 h1.2;omega
   ·rw [upd_ne e];exact h.1 y hy v h0 h9
  ·simp only;have:=h.2;by_cases e:f=x.to_
   ·rw [←e,upd_self];rw [←e] at hc;omega
   ·rw [upd_ne e];exact this
 ·rw [if_neg hc];exact h
theorem Wv.fold {n:Nat} {ls:List Sp} (hn:Nodes n ls) {f:Int} (r:Nat):∀(suf:List Sp) (s:BS),(∀x∈suf,x∈ls)→Wv ls n f s→Wv ls n f (suf.foldl (relax r) s):=by
 intro suf;induction suf with
 | nil=>intro s _ h;exact h
 | cons x suf ih=>intro s hs h;exact ih _ (fun y hy=>hs y (Zz _ hy)) (h.rel hn r (hs x (by simp)))
theorem e64L3 {k n:Nat} {ls:List Sp} (hn:Nodes n ls) (hl:ls.length≤26) (hk:40≤k) {q:Int×List Int×List Sp} (hd:q.2.1.length=n+1) (hp:q.2.2.length=n+1):F163L3 ls k (q.1,0,q.2.1,q.2.2)=some (.inr (ls.foldl relaxL q)):=by
 have h:=for_fold (l:=ls) (L:=F163L3 ls) (β:=List Int×List Sp) (σ:=Int×List Int×List Sp) (fun i s=>(s.1,(i:Int),s.2.1,s.2.2)) (fun s=>s) (fun _ x s=>relaxL s x) (fun _ s=>s.2.1.length=n+1∧s.2.2.length=n+1)
  (fun i s hi hp=>by unfold relaxL;split<;>simp [hp.1,hp.2])
  (fun m i s hi hq=>by
   have h1:=hn.frm _ (mem_get hi);have h2:=hn.to _ (mem_get hi);rw [F163L3];dsimp only;rw [if_pos (by simp;omega),idx_nat hi,Za,idx_bang (l:=s.2.1) (c:=ls[i]!.from_) (by omega) (by omega),Za,idx_bang (l:=s.2.1) (c:=ls[i]!.to_) (by omega) (by omega),Za,w64_id (n:=(i:Int)+1) (by omega) (by omega)];unfold relaxL;by_cases hc:w64 (s.2.1[ls[i]!.from_.toNat]! + ls[i]!.most)<s.2.1[ls[i]!.to_.toNat]!
   ·rw [if_pos (decide_eq_true hc),if_pos hc,Za,idx_bang (l:=s.2.2) (by omega) (by omega),Za];rfl
   ·rw [if_neg (by rw [decide_eq_false hc];simp),if_neg hc];rfl)
  (fun m s _=>by rw [F163L3,if_neg (by simp)]) k q ⟨hd,hp⟩ (by omega)
 rw [foldI_const] at h;exact h
theorem last_cases {n r:Nat} {ls:List Sp} (hn:Nodes n ls) {s:BS} (h:Rv ls r ls s):s.last = -1∨0≤s.last:=by
 rcases h.lst with ⟨h1,_⟩|⟨_,x,hx,h1⟩
 ·exact .inl h1
 ·have:=hn.to x hx;right;omega
theorem e64L2 {k n:Nat} {c:Cs} (hs:c.Sheets.length=n) (h5:n≤5) {ls:List Sp} (hn:Nodes n ls) (hl:ls.length≤26) (hk:40≤k) {f:Int}:∀(m r g:Nat) (s:BS) (q:Int×List Int×List Sp),m+r=n+2→m<g→Bv ls r s→RepE n s q→BdE (26*r) s→Wv ls n f s→(r=0∨(Rv ls r ls s∧s.last ≠ -1)) →
 ∃s' q',F163L2 k c.Sheets ls g (q.1,(r:Int),q.2.1,q.2.2)=some (.inr q')∧RepE n s' q'∧Wv ls n f s'∧((s'.last = -1∧∃r',Rv ls r' ls s')∨(0≤s'.last∧Rv ls (n+2) ls s')):=by
 intro m;induction m with
 | zero =>
  intro r g s q hm hg hb hr _ hw ho;obtain ⟨g,rfl⟩:∃x,g=x+1:=⟨g-1,by omega⟩
  rcases ho with h0|⟨hrv,hne⟩
  ·omega
  ·refine ⟨s,q,?_,hr,hw,.inr ⟨?_,?_⟩⟩
   ·rw [F163L2];dsimp only;rw [w64_id (n:=(c.Sheets.length:Int)+1) (by omega) (by omega),w64_id (by omega) (by omega),if_neg (by simp;omega)]
   ·rcases last_cases hn hrv with h|h
    ·exact absurd h hne
    ·exact h
   ·rw [show n+2=r by omega];exact hrv
 | succ m ih =>
  intro r g s q hm hg hb hr hbd hw _;obtain ⟨g,rfl⟩:∃x,g=x+1:=⟨g-1,by omega⟩
  have hr0:RepE n ⟨s.d,s.p,s.t,s.ts,s.clk,-1⟩ (-1,q.2.1,q.2.2):=⟨rfl,hr.dl,hr.pl,hr.dv,hr.pv⟩
  have hf:=RepE.fold hn (r+1) ls _ _ (26*r) (fun x hx=>hx) hr0 (fun v=>hbd v) (by omega) (by omega);have hrv:=hb.next hn.ne;have hwn:Wv ls n f (rnd (r+1) ls s):=Wv.fold hn (r+1) ls _ (fun x hx=>hx) ⟨hw.1,hw.2⟩;have e3:=e64L3 hn hl hk (q:=(-1,q.2.1,q.2.2)) hr.dl hr.pl;have hrn:RepE n (rnd (r+1) ls s) (ls.foldl relaxL (-1,q.2.1,q.2.2)):=hf.1
  have hbn:BdE (26*((r+1:Nat):Int)) (rnd (r+1) ls s):=fun v=>by
   have:=hf.2 v;have e:(rnd (r+1) ls s).d v=(List.foldl (relax (r+1)) ⟨s.d,s.p,s.t,s.ts,s.clk,-1⟩ ls).d v:=rfl;rw [e];omega
  have hlast:=last_cases hn hrv;have hlst:=hrn.lst;rcases hlast with hl1|hl1
  ·refine ⟨rnd (r+1) ls s,ls.foldl relaxL (-1,q.2.1,q.2.2),?_,hrn,hwn,.inl ⟨hl1,r+1,hrv⟩⟩;rw [F163L2];dsimp only;rw [w64_id (n:=(c.Sheets.length:Int)+1) (by omega) (by omega),w64_id (n:=(c.Sheets.length:Int)+1+1) (by omega) (by omega),if_pos (by simp;omega),e3,Za];simp only [outK];rw [if_pos (by simp;omega)]
  ·obtain ⟨s',q',h1,h2⟩:=ih (r+1) g (rnd (r+1) ls s) (ls.foldl relaxL (-1,q.2.1,q.2.2)) (by omega) (by omega) hrv.bv hrn hbn hwn (.inr ⟨hrv,by omega⟩);refine ⟨s',q',?_,h2⟩;rw [F163L2];dsimp only;rw [w64_id (n:=(c.Sheets.length:Int)+1) (by omega) (by omega),w64_id (n:=(c.Sheets.length:Int)+1+1) (by omega) (by omega),if_pos (by simp;omega),e3,Za];simp only [outK];rw [if_neg (by simp;omega),w64_id (n:=(r:Int)+1) (by omega) (by omega)];exact h1
theorem e64L4 {n:Nat} {c:Cs} (hs:c.Sheets.length=n) (h5:n≤5) {s:BS} {q:Int×List Int×List Sp} (hr:RepE n s q):∀(m i g:Nat) (a:Int),m+i=n+1→m<g→(∀j,j≤m→0≤back s j a∧back s j a≤n)→F163L4 c.Sheets q g (a,(i:Int))=some (.inr (back s m a)):=by
 intro m;induction m with
 | zero =>
  intro i g a hm hg _;obtain ⟨g,rfl⟩:∃x,g=x+1:=⟨g-1,by omega⟩
  rw [F163L4];dsimp only;rw [w64_id (n:=(c.Sheets.length:Int)+1) (by omega) (by omega),if_neg (by simp;omega)];rfl
 | succ m ih =>
  intro i g a hm hg hb;obtain ⟨g,rfl⟩:∃x,g=x+1:=⟨g-1,by omega⟩
  have h0:=hb 0 (by omega);simp only [back] at h0;have hp:=hr.pl;have e:q.2.2[a.toNat]! = s.p a:=by rw [hr.pv _ (by omega)];congr 1;omega
  rw [F163L4];dsimp only;rw [w64_id (n:=(c.Sheets.length:Int)+1) (by omega) (by omega),if_pos (by simp;omega),idx_bang (by omega) (by omega),Za,e,w64_id (n:=(i:Int)+1) (by omega) (by omega)];exact ih (i+1) g (prev s a) (by omega) (by omega) (fun j hj=>hb (j+1) (by omega))
theorem e64L5 {n:Nat} {s:BS} {q:Int×List Int×List Sp} (hr:RepE n s q) {b:Int} {L:Nat} (hL:1≤L∧L≤100) (hb:∀j,j≤L→0≤back s j b∧back s j b≤n) (hc:back s L b=b) (hmin:∀j,1≤j→j<L→back s j b≠b):∀(m j g:Nat),m+j=L→m<g→F163L5 q b g (back s j b,(List.range j).map (fun i=>s.p (back s i b)))=some (.inr ((List.range L).map (fun i=>s.p (back s i b)))):=by
 intro m;induction m with
 | zero =>
  intro j g hm hg;obtain ⟨g,rfl⟩:∃x,g=x+1:=⟨g-1,by omega⟩
  have e:j=L:=by omega
  subst e;rw [F163L5];dsimp only;rw [hc,if_neg]
  have h1:(((List.map (fun i=>s.p (back s i b)) (List.range j)).length:Int)==0)=false:=by
   simp;omega
  rw [h1];simp
 | succ m ih =>
  intro j g hm hg;obtain ⟨g,rfl⟩:∃x,g=x+1:=⟨g-1,by omega⟩
  have hj:=hb j (by omega);have hp:=hr.pl;have e:q.2.2[(back s j b).toNat]! = s.p (back s j b):=by rw [hr.pv _ (by omega)];congr 1;omega
  rw [F163L5];dsimp only
  have hcond:(cond (((List.map (fun i=>s.p (back s i b)) (List.range j)).length:Int)==0) true (back s j b != b))=true:=by
   cases j with
   | zero=>rfl
   | succ j =>
    have:=hmin (j+1) (by omega) (by omega);rw [show (back s (j+1) b != b)=true by simpa using this];cases (((List.map (fun i=>s.p (back s i b)) (List.range (j+1))).length:Int)==0)<;>rfl
  rw [if_pos hcond,idx_bang (by omega) (by omega),Za,need_true (by simp;omega),Za,Za,e];have h2:=ih (j+1) g (by omega) (by omega);rw [List.range_succ,YF,back_succ] at h2;exact h2
theorem wayN_sum (s:BS):∀(n:Nat) (v:Int),wayN s n v=sumN n (fun j=>(s.p (back s j v)).most):=by
 have h:∀(n:Nat) (v:Int),wayN s (n+1) v=wayN s n v+(s.p (back s n v)).most:=by
  intro n;induction n with
  | zero=>intro v;simp [wayN,back]
  | succ n ih=>intro v;rw [wayN,ih,wayN,back];omega
 intro n;induction n with
 | zero=>intro v;rfl
 | succ n ih=>intro v;rw [h,ih,sumN]

theorem least_from {P:Nat→Prop}:∀(L:Nat),1≤L→P L→∃m,1≤m∧m≤L∧P m∧∀j,1≤j→j<m→¬P j:=by
 intro L;induction L using Nat.strongRecOn with
 | _ L ih =>
  intro h1 h2;by_cases hx:∃j,1≤j∧j<L∧P j
  ·obtain ⟨j,a,b,d⟩:=hx;obtain ⟨m,e1,e2,e3⟩:=ih j b a d;exact ⟨m,e1,by omega,e3⟩
  ·exact ⟨L,h1,Zx _,h2,fun j a b d=>hx ⟨j,a,b,d⟩⟩

def pf (d:List Int):Int→Int:=fun v=>d[v.toNat]!
theorem e64L1 {k n:Nat} {c:Cs} (hs:c.Sheets.length=n) (h5:n≤5) (hk:40≤k):F163L1 c.Sheets k (0,List.replicate (n+1) 0)=some (.inr (List.replicate (n+1) 1048576)):=by
 have hw:(w64 ((c.Sheets.length:Int)+1)).toNat=n+1:=by rw [w64_id (by omega) (by omega)];omega
 have h:=for_fold (l:=List.replicate (n+1) (0:Int)) (L:=F163L1 c.Sheets) (β:=List Int×List Sp) (σ:=List Int) (fun i s=>((i:Int),s)) (fun s=>s) (fun i _ s=>s.set i 1048576) (fun i s=>s.length=n+1)
  (fun i s hi hp=>by simp [hp])
  (fun m i s hi hp=>by
   simp only [List.length_replicate] at hi;rw [F163L1];dsimp only
   rw [hw,if_pos (by simp;omega),idx_nat (by omega),Za,w64_id (n:=(i:Int)+1) (by omega) (by omega),Int.toNat_natCast];rfl)
  (fun m s _=>by rw [F163L1];dsimp only;rw [hw,if_neg (by simp)]) k (List.replicate (n+1) 0) (by simp) (by simp;omega)
 rw [show ((0:Int),List.replicate (n+1) (0:Int))=(((0:Nat):Int),List.replicate (n+1) 0) from rfl,h]
 have h2:=foldI_inv (l:=List.replicate (n+1) (0:Int)) (fun i _ (s:List Int)=>s.set i 1048576) (fun j s=>s.length=n+1∧∀i,i<j→s[i]? = some 1048576)
  (fun i s hi hp=>by
   simp only [List.length_replicate] at hi;refine ⟨by simp [hp.1],fun j hj=>?_⟩;by_cases e:i=j
   ·subst e;rw [List.getElem?_set_self (by omega)]
   ·rw [List.getElem?_set_ne e];exact hp.2 j (by omega)) (List.replicate (n+1) 0) ⟨by simp,fun i hi=>by omega⟩
 congr 2;apply ZZ;intro i;by_cases hi:i<n+1
 ·rw [h2.2 i (by simpa using hi)];simp [hi]
 ·rw [ZC (by rw [h2.1];omega),ZC (by simp;omega)]
theorem e64 {k:Nat} {c:Cs} (hk:40≤k) (hv:Val c) (w:Int) (f:Nat) (hf:f≤c.Sheets.length) (t:Int) (mm:List (List Int×Int)) :
 (∃d:List Int,F163 k f w t c.Sheets c.Edges (wl c) mm=some (d,[])∧d.length=c.Sheets.length+1∧Pot (lsA c w) (pf d)∧d[f]! = 0∧∀y,Pot (lsA c w) y→∀v:Nat,v≤c.Sheets.length→y v-y f≤d[v]!) ∨
 (∃rl b,F163 k f w t c.Sheets c.Edges (wl c) mm=some ([],rl)∧Cyc (lsA c w) rl b∧∀j,0≤b j∧b j≤c.Sheets.length):=by
 have hs:=hv.sheets;obtain ⟨n,hn⟩:∃n,c.Sheets.length=n:=⟨_,rfl⟩
 have hnd:=nodes hv w;rw [hn] at hnd hf hs;have hl:=(mem_lsA hv (w:=w)).2;have hw1:w64 ((n:Int)+1)=(n:Int)+1:=w64_id (by omega) (by omega)

 let s0:BS:=⟨fun v=>if v=(f:Int) then 0 else 1048576,fun _=>⟨0,0,0,0,0⟩,fun _=>0,fun _=>0,0,-1⟩
 have hb0:Bv (lsA c w) 0 s0:=⟨⟨fun v h=>by simp [s0] at h,fun v h=>by simp [s0] at h,fun v h=>by simp [s0] at h,fun v h=>by simp [s0] at h,fun v=>by simp [s0],fun v=>by simp [s0],fun v w h=>by simp [s0] at h⟩,fun v=>by simp [s0],fun x _ h=>by simp [s0] at h⟩
 have hr0:RepE n s0 (-1,(List.replicate (n+1) 1048576).set f 0,List.replicate (n+1) ⟨0,0,0,0,0⟩):=by
  refine ⟨rfl,by simp,by simp,fun v hv=>?_,fun v hv=>?_⟩
  ·simp only [s0];rw [get_set (by simp;omega) (by simp;omega)];by_cases e:f=v
   ·rw [if_pos e,if_pos (by omega)]
   ·rw [if_neg e,if_neg (by omega),get_rep (by omega)]
  ·simp only [s0];rw [get_rep (by omega)]
 have hd0:BdE (26*((0:Nat):Int)) s0:=fun v=>by simp only [s0];split<;>omega
 have hw0:Wv (lsA c w) n f s0:=by
  refine ⟨fun y hy v h0 h9=>?_,by simp [s0]⟩;simp only [s0];by_cases e:v=(f:Int)
  ·rw [if_pos e,e];omega
  ·rw [if_neg e]

   have hm:=(mem_lsA hv (w:=w)).1
   have up:∀i:Nat,i<n→y i-y n≤6:=fun i hi=>by
    have h1:=hy (stU c i) ((hm _).2 (.inr ⟨i,by omega,.inl rfl⟩));have h2:=most_ok hv (i:=i) (by omega);simp only [stU,hn] at h1;omega
   have dn:∀i:Nat,i<n→y n-y i≤6:=fun i hi=>by
    have h1:=hy (stD c i) ((hm _).2 (.inr ⟨i,by omega,.inr rfl⟩));have h2:=most_ok hv (i:=i) (by omega);simp only [stD,hn] at h1;omega
   have a1:y v-y n≤6:=by
    by_cases e2:v=n
    ·rw [e2];omega
    ·have:=up v.toNat (by omega);rw [show ((v.toNat:Nat):Int)=v by omega] at this;exact this
   have a2:y n-y f≤6:=by
    by_cases e2:f=n
    ·rw [e2];omega
    ·exact dn f (by omega)
   omega
 obtain ⟨s',q',h1,h2,h3,h4⟩:=e64L2 hn hs.2 hnd hl hk (f:=f) (n+2) 0 k s0 (-1,(List.replicate (n+1) 1048576).set f 0,List.replicate (n+1) ⟨0,0,0,0,0⟩) (by omega) (by omega) hb0 hr0 hd0 hw0 (.inl rfl)
 have hrun:∀R,(if (decide (q'.1<0)) then ((need (0<q'.2.1.length)).bind fun x26=>some (q'.2.1,([]:List Sp))) else ((F163L4 c.Sheets q' k (q'.1,0)).bind fun o27=>outK o27 (fun (ro27:(List Int)×(List Sp))=>some ro27) (fun (so27:Int)=>(F163L5 q' so27 k (so27,([]:List Sp))).bind fun o33=>outK o33 (fun (ro33:(List Int)×(List Sp))=>some ro33) (fun (so33:(List Sp))=>(need (0<so33.length)).bind fun x40=>some (([]:List Int),so33)))))=R→F163 k f w t c.Sheets c.Edges (wl c) mm=R:=by
  intro R hR;unfold F163;rw [e86 (by omega) hv,Za,hn,hw1,need_true (by omega),Za,need_true (by omega),Za,show ((n:Int)+1).toNat=n+1 by omega,e64L1 hn hs.2 hk,Za];simp only [outK];rw [idx_nat (by simp;omega),Za,Int.toNat_natCast];have h1':F163L2 k c.Sheets (lsA c w) k (-1,0,(List.replicate (n+1) 1048576).set f 0,List.replicate (n+1) ⟨0,0,0,0,0⟩)=_:=h1;rw [h1',Za];exact hR
 rcases h4 with ⟨hl1,r',hrv⟩|⟨hl1,hrv⟩
 ·left;refine ⟨q'.2.1,hrun _ ?_,by rw [h2.dl,hn],?_,?_,?_⟩
  ·rw [if_pos (by simp [h2.lst,hl1]),need_true (by rw [h2.dl];omega),Za]
  ·have hst:=hrv.still hl1 (fun x hx=>by have:=hnd.to x hx;omega);intro x hx;have:=hst x hx;have a1:=hnd.to x hx;have a2:=hnd.frm x hx;unfold pf;rw [h2.dv _ (by omega),h2.dv _ (by omega),show ((x.to_.toNat:Nat):Int)=x.to_ by omega,show ((x.from_.toNat:Nat):Int)=x.from_ by omega];omega
  ·have hst:=hrv.still hl1 (fun x hx=>by have:=hnd.to x hx;omega);have h5:=h3.1 s'.d (fun x hx=>by have:=hst x hx;omega) f (by omega) (by omega);have h6:=h3.2;rw [h2.dv _ (by omega)];omega
  ·intro y hy v hv';rw [h2.dv v (by omega)];exact h3.1 y hy v (by omega) (by omega)
 ·right;obtain ⟨L,a1,a2,a3,a4⟩:=comes_round hrv (by omega) (fun x hx=>⟨hnd.frm x hx,hnd.to x hx⟩);obtain ⟨M,b1,b2,b3,b4⟩:=least_from (P:=fun j=>back s' j (back s' (n+1) s'.last)=back s' (n+1) s'.last) L a1 a4;have hst:∀j,j≤M→0<s'.t (back s' j (back s' (n+1) s'.last))∧0≤back s' j (back s' (n+1) s'.last)∧back s' j (back s' (n+1) s'.last)≤n:=fun j hj=>by rw [←back_add];exact a3 _ (by omega)
  have hper:∀j,0≤back s' j (back s' (n+1) s'.last)∧back s' j (back s' (n+1) s'.last)≤n:=by
   intro j;induction j using Nat.strongRecOn with
   | _ j ih =>
    by_cases hj:j≤M
    ·exact (hst j hj).2
    ·have e:back s' j (back s' (n+1) s'.last)=back s' (j-M) (back s' (n+1) s'.last):=by
      rw [show j=M+(j-M) by omega,back_add,b3,show M+(j-M)-M=j-M by omega]
     rw [e];exact ih (j-M) (by omega)
  refine ⟨(List.range M).map (fun i=>s'.p (back s' i (back s' (n+1) s'.last))),fun j=>back s' j (back s' (n+1) s'.last),hrun _ ?_,?_,fun j=>by rw [hn];exact hper j⟩
  ·have h7:F163L4 c.Sheets q' k (q'.1,0)=_:=e64L4 hn hs.2 h2 (n+1) 0 k q'.1 (by omega) (by omega) (fun j hj=>by rw [h2.lst];exact (a3 j (by omega)).2);rw [if_neg (by simp [h2.lst];omega),h7,Za];simp only [outK];have h8:=e64L5 h2 (b:=back s' (n+1) s'.last) (L:=M) ⟨b1,by omega⟩ (fun j hj=>(hst j hj).2) b3 b4 M 0 k (by omega) (by omega);rw [List.range_zero,List.map_nil] at h8;have h9:F163L5 q' (back s' (n+1) s'.last) k (back s' (n+1) s'.last,[])=_:=h8;rw [h2.lst,h9,Za];simp only [outK];rw [need_true (by simp;omega),Za]
  ·have hget:∀j,j<M→((List.range M).map (fun i=>s'.p (back s' i (back s' (n+1) s'.last))))[j]! = s'.p (back s' j (back s' (n+1) s'.last)):=fun j hj=>by
    rw [getElem!_pos _ j (by simpa using hj)];simp
   constructor
   ·simpa using b1
   ·intro j hj;simp only [Zg,List.length_range] at hj;rw [hget j hj];have:=hrv.iv.pin _ (hst j (by omega)).1;exact ⟨this.1,this.2,(back_succ s' j _).symm⟩
   ·simp only [Zg,List.length_range];exact b3
   ·intro i j hij hj he;simp only [Zg,List.length_range] at hj;refine b4 (i+(M-j)) (by omega) (by omega) ?_;rw [back_add,he,←back_add,show j+(M-j)=M by omega];exact b3
   ·simp only [Zg,List.length_range];rw [sumN_congr (g:=fun j=>(s'.p (back s' j (back s' (n+1) s'.last))).most) (fun i hi=>by rw [hget i hi]),←wayN_sum];exact way_lt hrv.iv hnd.ne b1 (fun j hj=>(hst j (by omega)).1) b3
   ·simp only [Zg,List.length_range];omega


structure Fe (c:Cs) (w:Int) (x:List Int):Prop where
 box:∀i,i<c.Sheets.length → -c.Sheets[i]!.Most≤x[i]! ∧ x[i]! ≤ c.Sheets[i]!.Most
 eg:∀i,i<c.Edges.length→keep w i=true→lo c i≤x[c.Edges[i]!.A.toNat]! - x[c.Edges[i]!.B.toNat]! ∧ x[c.Edges[i]!.A.toNat]! - x[c.Edges[i]!.B.toNat]! ≤ hi c i
theorem fe_pot {c:Cs} (hv:Val c) {w:Int} {x:List Int} (hn:x[c.Sheets.length]! = 0):Fe c w x↔Pot (lsA c w) (pf x):=by
 have hm:=(mem_lsA hv (w:=w)).1;constructor
 ·intro h y hy;rcases (hm y).1 hy with ⟨i,h1,h2,rfl|rfl⟩|⟨i,h1,rfl|rfl⟩
  ·have:=h.eg i h1 h2;simp only [stA,pf];omega
  ·have:=h.eg i h1 h2;simp only [stB,pf];omega
  ·have:=h.box i h1;simp only [stU,pf,Int.toNat_natCast];omega
  ·have:=h.box i h1;simp only [stD,pf,Int.toNat_natCast];omega
 ·intro h;refine ⟨fun i hi'=>?_,fun i hi' hk=>?_⟩
  ·have a1:=h _ ((hm _).2 (.inr ⟨i,hi',.inl rfl⟩));have a2:=h _ ((hm _).2 (.inr ⟨i,hi',.inr rfl⟩));simp only [stU,stD,pf,Int.toNat_natCast] at a1 a2;omega
  ·have a1:=h _ ((hm _).2 (.inl ⟨i,hi',hk,.inl rfl⟩));have a2:=h _ ((hm _).2 (.inl ⟨i,hi',hk,.inr rfl⟩));simp only [stA,stB,pf] at a1 a2;omega

def chOf (n:Nat) (y:Int→Int):List Int:=(List.range n).map fun (i:Nat)=>y i-y n
theorem chOf_get {n i:Nat} {y:Int→Int} (h:i<n):(chOf n y)[i]! = y i-y n:=by
 unfold chOf;rw [getElem!_pos _ i (by simpa using h)];simp
theorem chOf_end {n:Nat} {y:Int→Int}:(chOf n y)[n]! = 0:=by
 unfold chOf;rw [getElem!_def,ZC (by simp)];rfl
theorem chOf_fe {c:Cs} (hv:Val c) {w:Int} {y:Int→Int} (hy:Pot (lsA c w) y):Fe c w (chOf c.Sheets.length y):=by
 rw [fe_pot hv chOf_end];have hnd:=nodes hv w;intro x hx;have h1:=hnd.frm x hx;have h2:=hnd.to x hx
 have key:∀v:Int,0≤v→v≤c.Sheets.length→pf (chOf c.Sheets.length y) v=y v-y c.Sheets.length:=by
  intro v a b;unfold pf;by_cases e:v=c.Sheets.length
  ·rw [e,Int.toNat_natCast,chOf_end];omega
  ·rw [chOf_get (by omega),show ((v.toNat:Nat):Int)=v by omega]
 rw [key _ h1.1 h1.2,key _ h2.1 h2.2];have:=hy x hx;omega

theorem tight {k:Nat} {c:Cs} (hk:40≤k) (hv:Val c) (w:Int) (f:Nat) (hf:f≤c.Sheets.length) (t:Int) (mm:List (List Int×Int)) :
 (∃d:List Int,F163 k f w t c.Sheets c.Edges (wl c) mm=some (d,[])∧d.length=c.Sheets.length+1∧d[f]! = 0∧Fe c w (chOf c.Sheets.length (pf d))∧∀x,Fe c w x→x[c.Sheets.length]! = 0→∀v:Nat,v≤c.Sheets.length→x[v]! - x[f]! ≤ d[v]!) ∨
 (∃rl b,F163 k f w t c.Sheets c.Edges (wl c) mm=some ([],rl)∧Cyc (lsA c w) rl b∧(∀j,0≤b j∧b j≤c.Sheets.length)∧∀x,¬(Fe c w x∧x[c.Sheets.length]! = 0)):=by
 rcases e64 hk hv w f hf t mm with ⟨d,h1,h2,h3,h4,h5⟩|⟨rl,b,h1,h2,h3⟩
 ·exact .inl ⟨d,h1,h2,h4,chOf_fe hv h3,fun x hx hn v hv'=>h5 _ ((fe_pot hv hn).1 hx) v hv'⟩
 ·exact .inr ⟨rl,b,h1,h2,h3,fun x ⟨hx,hn⟩=>h2.none ((fe_pot hv hn).1 hx)⟩

def Ag (c:Cs) (x:List Int):Prop:=x.length=c.Sheets.length∧Fe c 0 x
theorem get_end {l:List Int} {i:Nat} (h:l.length≤i):l[i]! = 0:=by rw [getElem!_def,ZC h];rfl
theorem take_get {α:Type} [Inhabited α] {l:List α} {n i:Nat} (h:i<n) (hl:n≤l.length):(l.take n)[i]! = l[i]! := by
 rw [getElem!_pos (l.take n) i (by simp;omega),getElem!_pos l i (by omega),List.getElem_take]
theorem nbeq_pos {n:Nat} (h:n≠0):(!(Nat.beq n 0))=true:=by
 cases n with
 | zero=>exact absurd rfl h
 | succ n=>rfl
theorem pot_min {ls:List Sp} {x y:Int→Int} (hx:Pot ls x) (hy:Pot ls y) (a:Int):Pot ls (fun v=>min (x v) (y v+a)):=fun s hs=>by
 have h1:=hx s hs;have h2:=hy s hs;simp only;omega
theorem pot_max {ls:List Sp} {x y:Int→Int} (hx:Pot ls x) (hy:Pot ls y) (a:Int):Pot ls (fun v=>max (x v) (y v-a)):=fun s hs=>by
 have h1:=hx s hs;have h2:=hy s hs;simp only;omega

structure P5 (c:Cs) (x:List Int):Prop where
 len:x.length=5
 fe:Fe c 0 x
 end_:∀i,c.Sheets.length≤i→x[i]! = 0

def mk5 (n:Nat) (f:Nat→Int):List Int:=(List.range 5).map fun i=>if i<n then f i else 0
theorem mk5_get {n:Nat} {f:Nat→Int} {i:Nat} (h:i<n) (h5:n≤5):(mk5 n f)[i]! = f i:=by
 unfold mk5;rw [getElem!_pos _ i (by simp;omega)];simp [h]
theorem mk5_end {n:Nat} {f:Nat→Int} {i:Nat} (h:n≤i):(mk5 n f)[i]! = 0:=by
 unfold mk5;by_cases hi:i<5
 ·rw [getElem!_pos _ i (by simp;omega)];simp;omega
 ·exact get_end (by simp;omega)
theorem mk5_len {n:Nat} {f:Nat→Int}:(mk5 n f).length=5:=by simp [mk5]
theorem fe_congr {c:Cs} (hv:Val c) {w:Int} {x y:List Int} (h:∀i,i<c.Sheets.length→x[i]! = y[i]!) (hx:Fe c w x):Fe c w y:=by
 refine ⟨fun i hi=>by rw [←h i hi];exact hx.box i hi,fun i hi hk=>?_⟩;have he:=ends hv hi;rw [←h _ (by omega),←h _ (by omega)];exact hx.eg i hi hk

theorem p5_pot {c:Cs} (hv:Val c) {y:Int→Int} (hy:Pot (lsA c 0) y) (h0:y c.Sheets.length=0):P5 c (mk5 c.Sheets.length fun i=>y i):=by
 have hs:=hv.sheets;refine ⟨mk5_len,fe_congr hv (fun i hi=>?_) (chOf_fe hv hy),fun i hi=>mk5_end hi⟩;rw [chOf_get hi,mk5_get hi hs.2,h0];omega
theorem P5.pot {c:Cs} (hv:Val c) {x:List Int} (h:P5 c x):Pot (lsA c 0) (pf x):=(fe_pot hv (h.end_ _ (Zx _))).1 h.fe

def lowr (c:Cs) (x y:List Int) (a:Int):List Int:=mk5 c.Sheets.length fun i=>min x[i]! (y[i]! + a)
def uppr (c:Cs) (x y:List Int) (a:Int):List Int:=mk5 c.Sheets.length fun i=>max x[i]! (y[i]! - a)
theorem P5.low {c:Cs} (hv:Val c) {x y:List Int} (hx:P5 c x) (hy:P5 c y) {a:Int} (ha:0≤a):P5 c (lowr c x y a):=by
 have h:=p5_pot hv (pot_min (hx.pot hv) (hy.pot hv) a) (by simp only [pf,Int.toNat_natCast];rw [hx.end_ _ (Zx _),hy.end_ _ (Zx _)];omega);exact h
theorem P5.upp {c:Cs} (hv:Val c) {x y:List Int} (hx:P5 c x) (hy:P5 c y) {a:Int} (ha:0≤a):P5 c (uppr c x y a):=by
 have h:=p5_pot hv (pot_max (hx.pot hv) (hy.pot hv) a) (by simp only [pf,Int.toNat_natCast];rw [hx.end_ _ (Zx _),hy.end_ _ (Zx _)];omega);exact h
theorem low_get {c:Cs} (h5:c.Sheets.length≤5) {x y:List Int} {a:Int} {i:Nat} (h:i<c.Sheets.length):(lowr c x y a)[i]! = min x[i]! (y[i]! + a):=mk5_get h h5
theorem upp_get {c:Cs} (h5:c.Sheets.length≤5) {x y:List Int} {a:Int} {i:Nat} (h:i<c.Sheets.length):(uppr c x y a)[i]! = max x[i]! (y[i]! - a):=mk5_get h h5
theorem sumN_add {f g:Nat→Int}:∀{n:Nat},sumN n (fun i=>f i+g i)=sumN n f+sumN n g:=by
 intro n;induction n with
 | zero=>rfl
 | succ n ih=>rw [sumN,sumN,sumN,ih];omega
theorem cost_le {c:Cs} (hv:Val c) {x y z u:List Int} (h:∀i,i<c.Sheets.length→absI z[i]! + absI u[i]! ≤ absI x[i]! + absI y[i]!):cost c z+cost c u≤cost c x+cost c y:=by
 unfold cost;rw [←sumN_add,←sumN_add];refine sumN_le fun i hi=>?_;rw [←Int.mul_add,←Int.mul_add];exact Int.mul_le_mul_of_nonneg_left (h i hi) (most_ok hv hi).2.2.1
theorem cost_congr {c:Cs} {x y:List Int} (h:∀i,i<c.Sheets.length→x[i]! = y[i]!):cost c x=cost c y:=sumN_congr fun i hi=>by rw [h i hi]

theorem low_upp {c:Cs} (hv:Val c) {x y:List Int} {a:Int} (h0:0≤a) (ha:∀i,i<c.Sheets.length→x[i]! ≤ y[i]! + (a+1)):cost c (lowr c x y a)+cost c (uppr c y x a)≤cost c x+cost c y:=by
 have hs:=hv.sheets;refine cost_le hv fun i hi=>?_;rw [low_get hs.2 hi,upp_get hs.2 hi];have:=ha i hi;unfold absI;omega

theorem low_upp0 {c:Cs} (hv:Val c) {x y:List Int}:cost c (lowr c x y 0)+cost c (uppr c x y 0)≤cost c x+cost c y:=by
 have hs:=hv.sheets;refine cost_le hv fun i hi=>?_;rw [low_get hs.2 hi,upp_get hs.2 hi];unfold absI;omega

def pl (m:Nat) (S:Int) (x:List Int):List Int:=(List.range 5).map fun j=>if j<m∧keep S j=false then x[j]! - 1 else x[j]!
theorem pl_len {m:Nat} {S:Int} {x:List Int}:(pl m S x).length=5:=by simp [pl]
theorem pl_get {m:Nat} {S:Int} {x:List Int} {j:Nat} (h:j<5):(pl m S x)[j]! = if j<m∧keep S j=false then x[j]! - 1 else x[j]! := by
 unfold pl;rw [getElem!_pos _ j (by simpa using h)];simp
theorem ext5 {x y:List Int} (hx:x.length=5) (hy:y.length=5) (h:∀j,j<5→x[j]! = y[j]!):x=y:=by
 apply List.ext_getElem (by omega);intro i h1 h2;have:=h i (by omega);rw [getElem!_pos x i h1,getElem!_pos y i h2] at this;exact this
theorem pl_zero {S:Int} {x:List Int} (hx:x.length=5):pl 0 S x=x:=ext5 pl_len hx fun j hj=>by rw [pl_get hj,if_neg (by omega)]
theorem pl_keep {m:Nat} {S:Int} {x:List Int} (h:keep S m=true):pl (m+1) S x=pl m S x:=ext5 pl_len pl_len fun j hj=>by
 rw [pl_get hj,pl_get hj];by_cases e:j=m
 ·subst e;rw [if_neg (by rw [h];simp),if_neg (by omega)]
 ·by_cases e2:j<m
  ·simp only [show j<m+1 by omega,e2]
  ·rw [if_neg (by omega),if_neg (by omega)]
theorem pl_low {m:Nat} {S:Int} {x:List Int} (hm:m<5) (h:keep S m=false):(pl m S x).set m (x[m]! - 1)=pl (m+1) S x:=ext5 (by simp [pl_len]) pl_len fun j hj=>by
 rw [get_set (by rw [pl_len];omega) (by rw [pl_len];omega),pl_get hj,pl_get hj];by_cases e:m=j
 ·subst e;rw [if_pos rfl,if_pos ⟨by omega,h⟩]
 ·rw [if_neg e];by_cases e2:j<m
  ·simp only [show j<m+1 by omega,e2]
  ·rw [if_neg (by omega),if_neg (by omega)]

def canL (c:Cs) (S:Int) (x:List Int) (i:Nat):Prop:=∀j,i≤j→j<c.Sheets.length→keep S j=false → -c.Sheets[j]!.Most≤x[j]! - 1
theorem lower_loop {β:Type} {c:Cs} (hv:Val c) {S:Int} {x:List Int} (hx:x.length=5) (hn:near c x) {L:Nat→Int×List Int→Option (β⊕(List Int⊕List Int))}
 (hL:∀n c9,L (n+1) c9=if (decide (c9.1<(c.Sheets.length:Int))) then ((idx c.Sheets c9.1).bind fun x12=>(need (0≤c9.1)).bind fun x13=>if ((Go.bits .and .i64 (S / 2^min c9.1.toNat 64) 1)==0) then (L n ((w64 (c9.1+1)),c9.2)) else ((need (0≤c9.1∧c9.1<5)).bind fun x15=>(c9.2[0+c9.1.toNat*1]?).bind fun x16=>(need (0≤c9.1∧c9.1<5)).bind fun x17=>(c9.2[0+c9.1.toNat*1]?).bind fun x18=>(need (0≤c9.1∧c9.1<5)).bind fun x19=>((c9.2.set (0+c9.1.toNat*1) (w64 (x16-1)))[0+c9.1.toNat*1]?).bind fun x20=>if (decide (x20<(w64 (0-x12.Most)))) then (some (.inr (.inl (c9.2.set (0+c9.1.toNat*1) (w64 (x16-1)))))) else (L n ((w64 (c9.1+1)),(c9.2.set (0+c9.1.toNat*1) (w64 (x16-1))))))) else (some (.inr (.inr c9.2)))) :
 ∀(m i g:Nat),m+i=c.Sheets.length→m<g→(canL c S x i∧L g ((i:Int),pl i S x)=some (.inr (.inr (pl c.Sheets.length S x))))∨(¬canL c S x i∧∃y,L g ((i:Int),pl i S x)=some (.inr (.inl y))):=by
 have hs:=hv.sheets;intro m;induction m with
 | zero =>
  intro i g hm hg;obtain ⟨g,rfl⟩:∃q,g=q+1:=⟨g-1,by omega⟩
  refine .inl ⟨fun j h1 h2=>by omega,?_⟩;rw [hL,if_neg (by simp;omega),show i=c.Sheets.length by omega]
 | succ m ih =>
  intro i g hm hg;obtain ⟨g,rfl⟩:∃q,g=q+1:=⟨g-1,by omega⟩
  have hi:i<c.Sheets.length:=by omega
  have hni:=hn i hi;have hmo:=most_ok hv hi;have hnext:=ih (i+1) g (by omega) (by omega);rw [hL];dsimp only;rw [if_pos (by simp;omega),idx_nat hi,Za,need_true (by omega),Za,Int.toNat_natCast,show (Go.bits .and .i64 (S / 2^min i 64) 1==0)=keep S i from rfl];cases hk:keep S i with
  | true =>
   rw [if_pos rfl,w64_id (n:=(i:Int)+1) (by omega) (by omega),←pl_keep hk]
   have hc:canL c S x i↔canL c S x (i+1):=⟨fun h j a b=>h j (by omega) b,fun h j a b d=>by
    by_cases e:j=i
    ·subst e;rw [hk] at d;simp at d
    ·exact h j (by omega) b d⟩
   rw [hc];exact hnext
  | false =>
   have hp:(pl i S x)[i]! = x[i]! := by rw [pl_get (by omega),if_neg (by omega)]
   have hq:(pl (i+1) S x)[i]! = x[i]! - 1:=by rw [pl_get (by omega),if_pos ⟨by omega,hk⟩]
   have hpl:i<(pl i S x).length:=by rw [pl_len];omega
   rw [if_neg (by simp),need_true (by omega),Za,Zw,Yw,get_some hpl,Za,Za,Za,Za,hp,w64_id (n:=x[i]! - 1) (by omega) (by omega),pl_low (by omega) hk,get_some (by rw [pl_len];omega),Za,hq,w64_id (n:=0-c.Sheets[i]!.Most) (by omega) (by omega),w64_id (n:=(i:Int)+1) (by omega) (by omega)];by_cases hd:x[i]! - 1<0-c.Sheets[i]!.Most
   ·rw [if_pos (decide_eq_true hd)];exact .inr ⟨fun h=>by have:=h i (Zx _) hi hk;omega,_,rfl⟩
   ·rw [if_neg (by rw [decide_eq_false hd];simp)]
    have hc:canL c S x i↔canL c S x (i+1):=⟨fun h j a b=>h j (by omega) b,fun h j a b d=>by
     by_cases e:j=i
     ·subst e;omega
     ·exact h j (by omega) b d⟩
    rw [hc];exact hnext

theorem oddF_neg {c:Cs} {x:List Int}:oddF c x<0↔∀i,i<c.Edges.length→lo c i≤x[c.Edges[i]!.A.toNat]! - x[c.Edges[i]!.B.toNat]! ∧ x[c.Edges[i]!.A.toNat]! - x[c.Edges[i]!.B.toNat]! ≤ hi c i:=by
 unfold oddF
 have key:fstB (fun y => !agB c x y) c.Edges 0=none↔∀i,i<c.Edges.length→lo c i≤x[c.Edges[i]!.A.toNat]! - x[c.Edges[i]!.B.toNat]! ∧ x[c.Edges[i]!.A.toNat]! - x[c.Edges[i]!.B.toNat]! ≤ hi c i:=by
  rw [fstE_none,List.any_eq_false];constructor
  ·intro h i hi';have:=h _ (mem_get hi');simp only [Bool.not_eq_true,Bool.not_eq_false',agB,okN_iff] at this;exact this
  ·intro h y hy;obtain ⟨i,hi',rfl⟩:=List.getElem_of_mem hy;have:=h i hi';rw [getElem!_pos c.Edges i hi'] at this;simp only [Bool.not_eq_true,Bool.not_eq_false',agB,okN_iff];unfold lo hi at this;rw [getElem!_pos c.Edges i hi'] at this;exact this
 cases hf:fstB (fun y => !agB c x y) c.Edges 0 with
 | none=>exact ⟨fun _=>key.1 hf,fun _=>by simp⟩
 | some j=>exact ⟨fun h=>by simp only at h;omega,fun h=>by rw [key.2 h] at hf;simp at hf⟩
theorem fe_iff {c:Cs} {x:List Int}:Fe c 0 x↔(∀i,i<c.Sheets.length → -c.Sheets[i]!.Most≤x[i]! ∧ x[i]! ≤ c.Sheets[i]!.Most)∧oddF c x<0:=by
 rw [oddF_neg];exact ⟨fun h=>⟨h.box,fun i hi=>h.eg i hi (keep0 i)⟩,fun h=>⟨h.1,fun i hi _=>h.2 i hi⟩⟩
theorem pl_fe {c:Cs} (hv:Val c) {S:Int} {x:List Int} (hx:P5 c x):Fe c 0 (pl c.Sheets.length S x)↔canL c S x 0∧oddF c (pl c.Sheets.length S x)<0:=by
 have hs:=hv.sheets;rw [fe_iff];constructor
 ·rintro ⟨h1,h2⟩;refine ⟨fun j _ hj hk=>?_,h2⟩;have:=h1 j hj;rw [pl_get (by omega),if_pos ⟨hj,hk⟩] at this;exact this.1
 ·rintro ⟨h1,h2⟩;refine ⟨fun j hj=>?_,h2⟩;have hb:=hx.fe.box j hj;rw [pl_get (by omega)];split
  ·rename_i h3;have:=h1 j (by omega) hj h3.2;omega
  ·exact hb
theorem pl_p5 {c:Cs} (hv:Val c) {S:Int} {x:List Int} (hx:P5 c x) (h:Fe c 0 (pl c.Sheets.length S x)):P5 c (pl c.Sheets.length S x):=by
 refine ⟨pl_len,h,fun i hi=>?_⟩;by_cases h5:i<5
 ·rw [pl_get h5,if_neg (by omega)];exact hx.end_ i hi
 ·exact get_end (by rw [pl_len];omega)
theorem near_p5 {c:Cs} (hv:Val c) {x:List Int} (hx:P5 c x):near c x:=fun i hi=>by
 have h1:=hx.fe.box i hi;have:=most_ok hv hi;omega
theorem near_pl {c:Cs} (hv:Val c) {S:Int} {x:List Int} (hx:P5 c x):near c (pl c.Sheets.length S x):=fun i hi=>by
 have hs:=hv.sheets;have h1:=hx.fe.box i hi;have:=most_ok hv hi;rw [pl_get (by omega)];split<;>omega

def sets (c:Cs):Int:=2^c.Sheets.length
theorem sets_eq {c:Cs} (hv:Val c):w64 ((1:Int)*2^min (c.Sheets.length:Int).toNat 64)=sets c∧2≤sets c∧sets c≤32:=by
 have hs:=hv.sheets;unfold sets;have:c.Sheets.length=1∨c.Sheets.length=2∨c.Sheets.length=3∨c.Sheets.length=4∨c.Sheets.length=5:=by omega
 rcases this with h|h|h|h|h<;>rw [h]<;>decide

structure BestI (c:Cs) (x:List Int) (s:Int) (b:List Int):Prop where
 len:b.length=5
 frm:b=x∨∃S,1≤S∧S<s∧Fe c 0 (pl c.Sheets.length S x)∧b=pl c.Sheets.length S x∧cost c b<cost c x
 le:cost c b≤cost c x
 all:∀S,1≤S→S<s→Fe c 0 (pl c.Sheets.length S x)→cost c b≤cost c (pl c.Sheets.length S x)
theorem e103L1 {k:Nat} {c:Cs} (hk:40≤k) (hv:Val c) {x:List Int} (hx:P5 c x) (t:Int):∀(r:Nat) (s:Int) (g:Nat) (b:List Int) (m:List (List Int×Int)),1≤s→s+r=sets c→r<g→KeptOk c m→BestI c x s b →
 ∃b' m',F206L1 k t c.Sheets c.Edges (wl c) x g (s,b,m,cost c b)=some (.inr (b',m',cost c b'))∧KeptOk c m'∧BestI c x (sets c) b':=by
 have hs:=hv.sheets;have hst:=sets_eq hv;intro r;induction r with
 | zero =>
  intro s g b m h1 hr hg hm hb;obtain ⟨g,rfl⟩:∃q,g=q+1:=⟨g-1,by omega⟩
  refine ⟨b,m,?_,hm,?_⟩
  ·rw [F206L1];dsimp only;rw [need_true (by omega),Za,hst.1,if_neg (by simp;omega)]
  ·rw [show sets c=s by omega];exact hb
 | succ r ih =>
  intro s g b m h1 hr hg hm hb;obtain ⟨g,rfl⟩:∃q,g=q+1:=⟨g-1,by omega⟩
  rw [F206L1];dsimp only;rw [need_true (by omega),Za,hst.1,if_pos (by simp;omega),cutN5 hx.len,Za,need_true hx.len,Za,w64_id (n:=s+1) (by omega) (by omega)];have hlow:=lower_loop (β:=(List Int)×(List ((List Int)×Int))×Int) hv (S:=s) hx.len (near_p5 hv hx) (L:=F206L2 c.Sheets (s,b,m,cost c b)) (fun n c9=>by rw [F206L2]) c.Sheets.length 0 k (by omega) (by omega);rw [pl_zero hx.len] at hlow
  have hskip:¬Fe c 0 (pl c.Sheets.length s x)→BestI c x (s+1) b:=fun hno=>by
   refine ⟨hb.len,?_,hb.le,fun S a1 a2 a3=>?_⟩
   ·rcases hb.frm with h|⟨S,a1,a2,a3⟩
    ·exact .inl h
    ·exact .inr ⟨S,a1,by omega,a3⟩
   ·by_cases e:S=s
    ·subst e;exact absurd a3 hno
    ·exact hb.all S a1 (by omega) a3
  rcases hlow with ⟨hcan,hlow⟩|⟨hcan,y,hlow⟩
  ·have hlow':F206L2 c.Sheets (s,b,m,cost c b) k (0,x)=_:=hlow;rw [hlow',Za];simp only [outK];have hnp:=near_pl hv (S:=s) hx;rw [cutN5 pl_len,Za,e60 (by omega) hv pl_len hnp,Za];by_cases ho:oddF c (pl c.Sheets.length s x)<0
   ·have hfe:=(pl_fe hv hx).2 ⟨hcan,ho⟩;have ht:decide (oddF c (pl c.Sheets.length s x)<0)=true:=decide_eq_true ho;rw [ht];simp only [optG_true,cond_true];rw [Za];obtain ⟨m1,e1,e2⟩:=e63 (k:=k) (by omega) hv pl_len hnp t hm
    have hr88:F169r k (pl c.Sheets.length s x) b t c.Sheets c.Edges (wl c) m (cost c b)=some (if cost c (pl c.Sheets.length s x)<cost c b then (pl c.Sheets.length s x,m1,cost c (pl c.Sheets.length s x)) else (b,m1,cost c b)):=by
     unfold F169r;rw [need_true pl_len,Za,cutN5 pl_len,Za,e1,Za];dsimp only;by_cases hlt:cost c (pl c.Sheets.length s x)<cost c b
     ·rw [if_pos (decide_eq_true hlt),if_pos hlt,Za,need_true pl_len,Za,need_true hb.len,Za]
     ·rw [if_neg (by rw [decide_eq_false hlt];simp),if_neg hlt]
    rw [hr88,Za];rw [if_neg (by simp)];by_cases hlt:cost c (pl c.Sheets.length s x)<cost c b
    ·rw [if_pos hlt];have hle:=hb.le
     exact ih (s+1) g (pl c.Sheets.length s x) m1 (by omega) (by omega) (by omega) e2 ⟨pl_len,.inr ⟨s,h1,by omega,hfe,rfl,by omega⟩,by omega,fun S a1 a2 a3=>by
      by_cases e:S=s
      ·subst e;exact YD _
      ·have:=hb.all S a1 (by omega) a3;omega⟩
    ·rw [if_neg hlt];refine ih (s+1) g b m1 (by omega) (by omega) (by omega) e2 ⟨hb.len,?_,hb.le,fun S a1 a2 a3=>?_⟩
     ·rcases hb.frm with h|⟨S,a1,a2,a3⟩
      ·exact .inl h
      ·exact .inr ⟨S,a1,by omega,a3⟩
     ·by_cases e:S=s
      ·subst e;omega
      ·exact hb.all S a1 (by omega) a3
   ·have ht:decide (oddF c (pl c.Sheets.length s x)<0)=false:=decide_eq_false ho;rw [ht];simp only [optG_false,cond_false];rw [Za,Za,if_neg (by simp)];exact ih (s+1) g b m (by omega) (by omega) (by omega) hm (hskip fun h=>ho ((pl_fe hv hx).1 h).2)
  ·have hlow':F206L2 c.Sheets (s,b,m,cost c b) k (0,x)=_:=hlow;rw [hlow',Za];simp only [outK];exact ih (s+1) g b m (by omega) (by omega) (by omega) hm (hskip fun h=>hcan ((pl_fe hv hx).1 h).1)
theorem e88 {k:Nat} {c:Cs} (hk:40≤k) (hv:Val c) {x:List Int} (hx:P5 c x) (t:Int) {m:List (List Int×Int)} (hm:KeptOk c m):∃b m',F169 k x t c.Sheets c.Edges (wl c) m x=some (b,cost c b,m')∧KeptOk c m'∧BestI c x (sets c) b:=by
 have hst:=sets_eq hv;obtain ⟨m1,e1,e2⟩:=e63 (k:=k) (by omega) hv hx.len (near_p5 hv hx) t hm;obtain ⟨b,m2,h1,h2,h3⟩:=e103L1 hk hv hx t (sets c-1).toNat 1 k x m1 (by omega) (by omega) (by omega) e2 ⟨hx.len,.inl rfl,YD _,fun S a1 a2 _=>by omega⟩;refine ⟨b,m2,?_,h2,h3⟩;unfold F169 F206;rw [cutN5 hx.len,Za,e1,Za];dsimp only;rw [h1,Za];simp only [outK];rw [Za,cutN5 h3.len,Za,need_true h3.len,Za,Za]

def Opt (c:Cs) (x:List Int):Prop:=P5 c x∧∀y,P5 c y→cost c x≤cost c y

def Le (c:Cs) (x y:List Int):Prop:=∀i,i<c.Sheets.length→x[i]! ≤ y[i]!

theorem set_of {n:Nat} (h1:1≤n) (h5:n≤5) (p:Nat→Bool):∃S:Int,0≤S∧S<2^n∧(∀i,i<n→keep S i = !p i)∧((∃i,i<n∧p i=true)→1≤S):=by
 have key:∀b0 b1 b2 b3 b4:Bool,∃S:Int,0≤S∧S<32∧keep S 0 = !b0∧keep S 1 = !b1∧keep S 2 = !b2∧keep S 3 = !b3∧keep S 4 = !b4∧S=(cond b0 1 0)+(cond b1 2 0)+(cond b2 4 0)+(cond b3 8 0)+(cond b4 16 0):=by
  intro b0 b1 b2 b3 b4;refine ⟨_,?_,?_,?_,?_,?_,?_,?_,rfl⟩<;>cases b0<;>cases b1<;>cases b2<;>cases b3<;>cases b4<;>decide
 obtain ⟨S,a1,a2,k0,k1,k2,k3,k4,a3⟩:=key (p 0) (decide (1<n)&&p 1) (decide (2<n)&&p 2) (decide (3<n)&&p 3) (decide (4<n)&&p 4);have c0:(cond (p 0) 1 0:Int)=0∨(cond (p 0) 1 0:Int)=1:=by cases p 0<;>simp
 refine ⟨S,a1,?_,?_,?_⟩
 ·have:n=1∨n=2∨n=3∨n=4∨n=5:=by omega
  rcases this with h|h|h|h|h<;>subst h<;>simp at a3<;>rw [a3]<;>cases p 0<;>cases p 1<;>cases p 2<;>cases p 3<;>cases p 4<;>decide
 ·intro i hi;have:i=0∨i=1∨i=2∨i=3∨i=4:=by omega
  rcases this with h|h|h|h|h<;>subst h
  ·exact k0
  ·rw [k1,decide_eq_true hi,Bool.true_and]
  ·rw [k2,decide_eq_true hi,Bool.true_and]
  ·rw [k3,decide_eq_true hi,Bool.true_and]
  ·rw [k4,decide_eq_true hi,Bool.true_and]
 ·rintro ⟨i,hi,hp⟩;have:i=0∨i=1∨i=2∨i=3∨i=4:=by omega
  have hk:keep S i=false:=by
   rcases this with h|h|h|h|h<;>subst h
   ·rw [k0,hp];rfl
   ·rw [k1,decide_eq_true hi,hp];rfl
   ·rw [k2,decide_eq_true hi,hp];rfl
   ·rw [k3,decide_eq_true hi,hp];rfl
   ·rw [k4,decide_eq_true hi,hp];rfl
  apply Classical.byContradiction;intro h;have e:S=0:=by omega
  rw [e,keep0] at hk;simp at hk

def sum5 (c:Cs) (x:List Int):Int:=sumN c.Sheets.length fun i=>x[i]!
theorem sumN_lt {f g:Nat→Int}:∀{n:Nat},(∀i,i<n→f i≤g i)→(∃i,i<n∧f i<g i)→sumN n f<sumN n g:=by
 intro n;induction n with
 | zero=>rintro _ ⟨i,h,_⟩;omega
 | succ n ih =>
  rintro h ⟨i,hi,hlt⟩;have h1:=h n (by omega);rw [sumN,sumN];by_cases e:i=n
  ·subst e;have:=sumN_le (n:=i) (fun j hj=>h j (by omega));omega
  ·have:=ih (fun j hj=>h j (by omega)) ⟨i,by omega,hlt⟩;omega

theorem low_pl {c:Cs} (hv:Val c) {x y:List Int} (hx:P5 c x) (hy:P5 c y) {a:Int} (h0:0≤a) (ha:∀i,i<c.Sheets.length→x[i]! ≤ y[i]! + (a+1)) (hex:∃i,i<c.Sheets.length∧x[i]! = y[i]! + (a+1)):∃S,1≤S∧S<sets c∧lowr c x y a=pl c.Sheets.length S x:=by
 have hs:=hv.sheets;obtain ⟨S,a1,a2,a3,a4⟩:=set_of hs.1 hs.2 (fun i=>decide (x[i]! = y[i]! + (a+1)));obtain ⟨i,hi,he⟩:=hex;refine ⟨S,a4 ⟨i,hi,decide_eq_true he⟩,a2,ext5 mk5_len pl_len fun j hj=>?_⟩;rw [pl_get hj];by_cases h:j<c.Sheets.length
 ·rw [low_get hs.2 h,a3 j h];have:=ha j h;by_cases e:x[j]! = y[j]! + (a+1)
  ·rw [if_pos ⟨h,by rw [decide_eq_true e];rfl⟩];omega
  ·rw [if_neg (by rw [decide_eq_false e];simp)];omega
 ·rw [if_neg (by omega),show (lowr c x y a)[j]! = 0 from mk5_end (by omega)];exact (hx.end_ j (by omega)).symm
theorem max_dist {n:Nat} (f:Nat→Int) (h1:1≤n):∃i,i<n∧∀j,j<n→f j≤f i:=by
 induction n with
 | zero=>omega
 | succ n ih =>
  by_cases h:n=0
  ·subst h;refine ⟨0,by omega,fun j hj=>?_⟩;have e:j=0:=by omega
   rw [e];exact YD _
  ·obtain ⟨i,hi,h2⟩:=ih (by omega);by_cases hn:f n≤f i
   ·exact ⟨i,by omega,fun j hj=>by
     by_cases e:j=n
     ·subst e;exact hn
     ·exact h2 j (by omega)⟩
   ·exact ⟨n,by omega,fun j hj=>by
     by_cases e:j=n
     ·subst e;exact YD _
     ·have:=h2 j (by omega);omega⟩

theorem no_less {c:Cs} (hv:Val c) {x:List Int} (hx:P5 c x) (hno:∀S,1≤S→S<sets c→Fe c 0 (pl c.Sheets.length S x)→cost c x≤cost c (pl c.Sheets.length S x)):∀(m:Nat) (y:List Int),P5 c y→Le c y x→(sum5 c x-sum5 c y).toNat=m→cost c x≤cost c y:=by
 have hs:=hv.sheets;intro m;induction m using Nat.strongRecOn with
 | _ m ih =>
  intro y hy hle hm;obtain ⟨i,hi,hmax⟩:=max_dist (fun i=>x[i]! - y[i]!) hs.1;by_cases h0:x[i]! - y[i]! ≤ 0
  ·rw [cost_congr (x:=x) (y:=y) (fun j hj=>by have h1:=hmax j hj;have h2:=hle j hj;omega)];exact YD _
  ·have ha:∀j,j<c.Sheets.length→x[j]! ≤ y[j]! + ((x[i]! - y[i]! - 1)+1):=fun j hj=>by have:=hmax j hj;omega
   have hlow:=hx.low hv hy (a:=x[i]! - y[i]! - 1) (by omega);have hupp:=hy.upp hv hx (a:=x[i]! - y[i]! - 1) (by omega);have hc:=low_upp hv (x:=x) (y:=y) (a:=x[i]! - y[i]! - 1) (by omega) ha;obtain ⟨S,s1,s2,s3⟩:=low_pl hv hx hy (a:=x[i]! - y[i]! - 1) (by omega) ha ⟨i,hi,by omega⟩;have h1:=hno S s1 s2 (by rw [←s3];exact hlow.fe);rw [←s3] at h1;have hge:∀j,j<c.Sheets.length→y[j]! ≤ (uppr c y x (x[i]! - y[i]! - 1))[j]! := fun j hj=>by rw [upp_get hs.2 hj];omega
   have hle2:Le c (uppr c y x (x[i]! - y[i]! - 1)) x:=fun j hj=>by rw [upp_get hs.2 hj];have:=hle j hj;omega
   have hlt:sum5 c y<sum5 c (uppr c y x (x[i]! - y[i]! - 1)):=sumN_lt hge ⟨i,hi,by rw [upp_get hs.2 hi];omega⟩;have hle3:sum5 c (uppr c y x (x[i]! - y[i]! - 1))≤sum5 c x:=sumN_le hle2;have h2:=ih _ (by omega) _ hupp hle2 rfl;omega

theorem best_keeps {c:Cs} (hv:Val c) {x b y:List Int} (hx:P5 c x) (hy:Opt c y) (hle:Le c y x) (hb:BestI c x (sets c) b):P5 c b∧∃z,Opt c z∧Le c z b:=by
 have hs:=hv.sheets;rcases hb.frm with rfl|⟨S,s1,s2,s3,rfl,s4⟩
 ·exact ⟨hx,y,hy,hle⟩
 ·have hp:=pl_p5 hv hx s3;have hlow:=hp.low hv hy.1 (a:=0) (YD _);have hupp:=hp.upp hv hy.1 (a:=0) (YD _);have hc:=low_upp0 hv (x:=pl c.Sheets.length S x) (y:=y);refine ⟨hp,lowr c (pl c.Sheets.length S x) y 0,⟨hlow,fun z hz=>?_⟩,fun i hi=>by rw [low_get hs.2 hi];omega⟩;have hmin:=hy.2 z hz

  have hub:cost c (pl c.Sheets.length S x)≤cost c (uppr c (pl c.Sheets.length S x) y 0):=by
   obtain ⟨T,t1,t2,t3,t4⟩:=set_of hs.1 hs.2 (fun i => !keep S i&&decide (y[i]! < x[i]!))
   have he:uppr c (pl c.Sheets.length S x) y 0=pl c.Sheets.length T x:=ext5 mk5_len pl_len fun j hj=>by
    rw [pl_get hj];by_cases h:j<c.Sheets.length
    ·rw [upp_get hs.2 h,pl_get hj,t3 j h];have:=hle j h;cases hk:keep S j with
     | true=>rw [if_neg (by simp),if_neg (by simp)];omega
     | false =>
      rw [if_pos ⟨h,rfl⟩];by_cases hlt:y[j]! < x[j]!
      ·rw [if_pos ⟨h,by rw [decide_eq_true hlt];rfl⟩];omega
      ·rw [if_neg (by rw [decide_eq_false hlt];simp)];omega
    ·rw [if_neg (by omega),show (uppr c (pl c.Sheets.length S x) y 0)[j]! = 0 from mk5_end (by omega)];exact (hx.end_ j (by omega)).symm
   by_cases hT:1≤T
   ·rw [he];exact hb.all T hT t2 (by rw [←he];exact hupp.fe)
   ·have hT0:T=0:=by omega
    have:uppr c (pl c.Sheets.length S x) y 0=x:=by
     rw [he,hT0];exact ext5 pl_len hx.len fun j hj=>by rw [pl_get hj,if_neg (by rw [keep0];simp)]
    rw [this];omega
  omega

theorem lowest {c:Cs} (hv:Val c) {x y:List Int} (hx:Opt c x) (hno:∀S,1≤S→S<sets c→Fe c 0 (pl c.Sheets.length S x)→cost c (pl c.Sheets.length S x)≠cost c x) (hy:Opt c y):Le c x y:=by
 have hs:=hv.sheets;intro q hq;apply Classical.byContradiction;intro hgt;have hlow:=hx.1.low hv hy.1 (a:=0) (YD _);have hupp:=hx.1.upp hv hy.1 (a:=0) (YD _);have hc:=low_upp0 hv (x:=x) (y:=y);have h1:=hx.2 _ hupp;have h2:=hy.2 _ hx.1;have h3:=hx.2 _ hy.1

 have hz:Opt c (lowr c x y 0):=⟨hlow,fun u hu=>by have:=hx.2 u hu;omega⟩
 generalize he:lowr c x y 0=z at hz;have hzx:∀i,i<c.Sheets.length→z[i]! = min x[i]! y[i]! := fun i hi=>by rw [←he,low_get hs.2 hi];omega
 obtain ⟨i,hi,hmax⟩:=max_dist (fun i=>x[i]! - z[i]!) hs.1
 have hpos:1≤x[i]! - z[i]! := by
  have:=hmax q hq;rw [hzx q hq] at this;omega
 have ha:∀j,j<c.Sheets.length→x[j]! ≤ z[j]! + ((x[i]! - z[i]! - 1)+1):=fun j hj=>by have:=hmax j hj;omega
 have hl2:=hx.1.low hv hz.1 (a:=x[i]! - z[i]! - 1) (by omega);have hu2:=hz.1.upp hv hx.1 (a:=x[i]! - z[i]! - 1) (by omega);have hc2:=low_upp hv (x:=x) (y:=z) (a:=x[i]! - z[i]! - 1) (by omega) ha;obtain ⟨S,s1,s2,s3⟩:=low_pl hv hx.1 hz.1 (a:=x[i]! - z[i]! - 1) (by omega) ha ⟨i,hi,by omega⟩;have h4:=hx.2 _ hl2;have h5:=hz.2 _ hu2;have h6:=hz.2 _ hx.1;have h7:=hx.2 _ hz.1;refine hno S s1 s2 (by rw [←s3];exact hl2.fe) ?_;rw [←s3];omega
theorem sum_pl {c:Cs} (hv:Val c) {S:Int} (hS:1≤S∧S<sets c) {x:List Int} (hne:pl c.Sheets.length S x≠x) (hx:P5 c x):sum5 c (pl c.Sheets.length S x)<sum5 c x:=by
 have hs:=hv.sheets;refine sumN_lt (fun i hi=>by rw [pl_get (by omega)];split<;>omega) ?_;apply Classical.byContradiction;intro hno;refine hne (ext5 pl_len hx.len fun j hj=>?_);rw [pl_get hj];split
 ·rename_i h;exact absurd ⟨j,h.1,by rw [pl_get hj,if_pos h];omega⟩ hno
 ·rfl
theorem sum_bound {c:Cs} (hv:Val c) {x:List Int} (hx:P5 c x) : -30≤sum5 c x∧sum5 c x≤30:=by
 have hs:=hv.sheets
 have h:∀n,n≤c.Sheets.length → -(6*(n:Int))≤sumN n (fun i=>x[i]!)∧sumN n (fun i=>x[i]!)≤6*n:=by
  intro n;induction n with
  | zero=>intro _;simp [sumN]
  | succ n ih =>
   intro hn;have h1:=ih (by omega);have h2:=hx.fe.box n (by omega);have h3:=most_ok hv (i:=n) (by omega);rw [sumN];omega
 have:=h c.Sheets.length (Zx _);unfold sum5;omega
theorem e103v1L1 {k:Nat} {c:Cs} (hk:40≤k) (hv:Val c) {x:List Int} (hx:P5 c x) (t:Int):∀(r:Nat) (s:Int) (g:Nat) (m:List (List Int×Int)),1≤s→s+r=sets c→r<g→KeptOk c m →
 (∃m',F206v1L1 k t c.Sheets c.Edges (wl c) x g (s,m,x,false)=some (.inr (m',x,false))∧KeptOk c m'∧∀S,s≤S→S<sets c→Fe c 0 (pl c.Sheets.length S x)→cost c (pl c.Sheets.length S x)≠cost c x) ∨
 (∃m' S,F206v1L1 k t c.Sheets c.Edges (wl c) x g (s,m,x,false)=some (.inl (false,m',pl c.Sheets.length S x,true))∧KeptOk c m'∧1≤S∧S<sets c∧Fe c 0 (pl c.Sheets.length S x)∧cost c (pl c.Sheets.length S x)=cost c x):=by
 have hs:=hv.sheets;have hst:=sets_eq hv;intro r;induction r with
 | zero =>
  intro s g m h1 hr hg hm;obtain ⟨g,rfl⟩:∃q,g=q+1:=⟨g-1,by omega⟩
  refine .inl ⟨m,?_,hm,fun S a1 a2=>by omega⟩;rw [F206v1L1];dsimp only;rw [need_true (by omega),Za,hst.1,if_neg (by simp;omega)]
 | succ r ih =>
  intro s g m h1 hr hg hm;obtain ⟨g,rfl⟩:∃q,g=q+1:=⟨g-1,by omega⟩
  rw [F206v1L1];dsimp only;rw [need_true (by omega),Za,hst.1,if_pos (by simp;omega),cutN5 hx.len,Za,need_true hx.len,Za,w64_id (n:=s+1) (by omega) (by omega)];have hlow:=lower_loop (β:=Bool×(List ((List Int)×Int))×(List Int)×Bool) hv (S:=s) hx.len (near_p5 hv hx) (L:=F206v1L2 c.Sheets (s,m,x,false)) (fun n c9=>by rw [F206v1L2]) c.Sheets.length 0 k (by omega) (by omega);rw [pl_zero hx.len] at hlow
  have hgo:∀m',KeptOk c m'→¬(Fe c 0 (pl c.Sheets.length s x)∧cost c (pl c.Sheets.length s x)=cost c x) →
   (∃m'',F206v1L1 k t c.Sheets c.Edges (wl c) x g (s+1,m',x,false)=some (.inr (m'',x,false))∧KeptOk c m''∧∀S,s≤S→S<sets c→Fe c 0 (pl c.Sheets.length S x)→cost c (pl c.Sheets.length S x)≠cost c x) ∨
   (∃m'' S,F206v1L1 k t c.Sheets c.Edges (wl c) x g (s+1,m',x,false)=some (.inl (false,m'',pl c.Sheets.length S x,true))∧KeptOk c m''∧1≤S∧S<sets c∧Fe c 0 (pl c.Sheets.length S x)∧cost c (pl c.Sheets.length S x)=cost c x):=by
   intro m' hm' hno;rcases ih (s+1) g m' (by omega) (by omega) (by omega) hm' with ⟨m'',a1,a2,a3⟩|h
   ·refine .inl ⟨m'',a1,a2,fun S b1 b2 b3 b4=>?_⟩;by_cases e:S=s
    ·subst e;exact hno ⟨b3,b4⟩
    ·exact a3 S (by omega) b2 b3 b4
   ·exact .inr h
  rcases hlow with ⟨hcan,hlow⟩|⟨hcan,y,hlow⟩
  ·have hlow':F206v1L2 c.Sheets (s,m,x,false) k (0,x)=_:=hlow;rw [hlow',Za];simp only [outK];have hnp:=near_pl hv (S:=s) hx;rw [cutN5 pl_len,Za,e60 (by omega) hv pl_len hnp,Za];by_cases ho:oddF c (pl c.Sheets.length s x)<0
   ·have hfe:=(pl_fe hv hx).2 ⟨hcan,ho⟩;have ht:decide (oddF c (pl c.Sheets.length s x)<0)=true:=decide_eq_true ho;rw [ht];simp only [optG_true,cond_true];rw [Za];obtain ⟨m1,e1,e2⟩:=e63 (k:=k) (by omega) hv pl_len hnp t hm;obtain ⟨m2,e3,e4⟩:=e63 (k:=k) (by omega) hv hx.len (near_p5 hv hx) t e2
    have hr66:F109r k (pl c.Sheets.length s x) t c.Sheets c.Edges (wl c) m x false=some (if cost c (pl c.Sheets.length s x)=cost c x then (false,m2,pl c.Sheets.length s x,true) else (true,m2,x,false)):=by
     unfold F109r;rw [need_true pl_len,Za,cutN5 pl_len,Za,e1,Za,cutN5 hx.len,Za];dsimp only;rw [e3,Za];dsimp only;by_cases hq:cost c (pl c.Sheets.length s x)=cost c x
     ·rw [if_pos (by simp [hq]),if_pos hq,Za,need_true pl_len,Za,need_true hx.len,Za]
     ·rw [if_neg (by simp [hq]),if_neg hq]
    rw [hr66,Za];by_cases hq:cost c (pl c.Sheets.length s x)=cost c x
    ·rw [if_pos hq];simp only [Zs,if_true];exact .inr ⟨m2,s,rfl,e4,h1,by omega,hfe,hq⟩
    ·rw [if_neg hq];simp only [Zt,Zk,if_false];exact hgo m2 e4 fun h=>hq h.2
   ·have ht:decide (oddF c (pl c.Sheets.length s x)<0)=false:=decide_eq_false ho;rw [ht];simp only [optG_false,cond_false];rw [Za,Za,if_neg (by simp)];exact hgo m hm fun h=>ho ((pl_fe hv hx).1 h.1).2
  ·have hlow':F206v1L2 c.Sheets (s,m,x,false) k (0,x)=_:=hlow;rw [hlow',Za];simp only [outK];exact hgo m hm fun h=>hcan ((pl_fe hv hx).1 h.1).1

theorem set_some {n:Nat} (h1:1≤n) (h5:n≤5) {S:Int} (a:1≤S) (b:S<2^n):∃i,i<n∧keep S i=false:=by
 have key:∀n:Fin 6,∀S:Fin 32,1≤S.val→S.val<2^n.val→∃i:Fin 5,i.val<n.val∧keep (S.val:Int) i.val=false:=by decide +kernel
 have hS:S.toNat<32∧S.toNat<2^n:=by
  have:n=1∨n=2∨n=3∨n=4∨n=5:=by omega
  rcases this with h|h|h|h|h<;>subst h<;>omega
 obtain ⟨i,hi,hk⟩:=key ⟨n,by omega⟩ ⟨S.toNat,hS.1⟩ (by simp only;omega) hS.2;refine ⟨i.val,hi,?_⟩;simp only at hk;rw [show ((S.toNat:Nat):Int)=S by omega] at hk;exact hk
theorem pl_ne {c:Cs} (hv:Val c) {S:Int} (h:1≤S∧S<sets c) {x:List Int}:pl c.Sheets.length S x≠x:=by
 have hs:=hv.sheets;obtain ⟨i,hi,hk⟩:=set_some hs.1 hs.2 h.1 h.2;intro e;have h1:(pl c.Sheets.length S x)[i]! = x[i]! := by rw [e]
 rw [pl_get (by omega),if_pos ⟨hi,hk⟩] at h1;omega
theorem e66L1 {k:Nat} {c:Cs} (hk:40≤k) (hv:Val c) (t:Int):∀(r g:Nat) (m:List (List Int×Int)) (x y:List Int),(sum5 c x+30).toNat≤r→r<g→KeptOk c m→P5 c x→BestI c x (sets c) y→(∃z,Opt c z∧Le c z x) →
 ∃m' x',F109L1 k t c.Sheets c.Edges (wl c) g (m,x,y)=some (.inr (m',x',x'))∧KeptOk c m'∧Opt c x':=by
 have hfin:∀x,P5 c x→BestI c x (sets c) x→(∃z,Opt c z∧Le c z x)→Opt c x:=by
  rintro x hx hb ⟨z,hz,hle⟩;refine ⟨hx,fun y hy=>?_⟩;have h1:=no_less hv hx hb.all _ z hz.1 hle rfl;have h2:=hz.2 y hy;omega
 intro r;induction r with
 | zero =>
  intro g m x y hr hg hm hx hb hz;obtain ⟨g,rfl⟩:∃q,g=q+1:=⟨g-1,by omega⟩
  have he:y=x:=by
   rcases hb.frm with h|⟨S,s1,s2,s3,s4,s5⟩
   ·exact h
   ·exfalso;have h1:=sum_pl hv ⟨s1,s2⟩ (pl_ne hv ⟨s1,s2⟩) hx;have h2:=sum_bound hv (pl_p5 hv hx s3);omega
  subst he;refine ⟨m,y,?_,hm,hfin y hx hb hz⟩;rw [F109L1];dsimp only;rw [cutN5 hx.len,Za,Za,need_true hx.len,Za,Za,if_neg (by simp)]
 | succ r ih =>
  intro g m x y hr hg hm hx hb hz;obtain ⟨g,rfl⟩:∃q,g=q+1:=⟨g-1,by omega⟩
  rw [F109L1];dsimp only;rw [cutN5 hx.len,cutN5 hb.len,Za,Za,need_true hx.len,need_true hb.len,Za,Za];by_cases he:y=x
  ·subst he;rw [if_neg (by simp)];exact ⟨m,y,rfl,hm,hfin y hx hb hz⟩
  ·rw [if_pos (by simpa using he)];simp only [Za,need_true hx.len,need_true hb.len,cutN5 hb.len];obtain ⟨z,hz1,hz2⟩:=hz;have hkp:=best_keeps hv hx hz1 hz2 hb;obtain ⟨b,m2,h1,h2,h3⟩:=e88 hk hv hkp.1 t hm;rw [show F170 y t c.Sheets c.Edges (wl c) m=some y from rfl,Za,h1,Za,need_true h3.len,Za];refine ih g m2 y b ?_ (by omega) h2 hkp.1 h3 hkp.2
   have hlt:sum5 c y<sum5 c x:=by
    rcases hb.frm with h|⟨S,s1,s2,s3,s4,s5⟩
    ·exact absurd h he
    ·rw [s4];exact sum_pl hv ⟨s1,s2⟩ (pl_ne hv ⟨s1,s2⟩) hx
   have:=sum_bound hv hkp.1;omega
theorem e66L2 {k:Nat} {c:Cs} (hk:40≤k) (hv:Val c) (t:Int):∀(r g:Nat) (m:List (List Int×Int)) (x:List Int),(sum5 c x+30).toNat≤r→r+1<g→KeptOk c m→Opt c x →
 ∃m' x',F109L2 k t c.Sheets c.Edges (wl c) g (m,x,true)=some (.inr (m',x',false))∧KeptOk c m'∧Opt c x'∧∀S,1≤S→S<sets c→Fe c 0 (pl c.Sheets.length S x')→cost c (pl c.Sheets.length S x')≠cost c x':=by
 intro r;induction r with
 | zero =>
  intro g m x hr hg hm hx;obtain ⟨g,rfl⟩:∃q,g=q+2:=⟨g-2,by omega⟩
  have hst:=sets_eq hv;rw [F109L2];dsimp only;rw [if_pos rfl,cutN5 hx.1.len,Za,show F170 x t c.Sheets c.Edges (wl c) m=some x from rfl,Za];unfold F206v1;rcases e103v1L1 hk hv hx.1 t (sets c-1).toNat 1 k m (by omega) (by omega) (by omega) hm with ⟨m',a1,a2,a3⟩|⟨m',S,a1,a2,a3,a4,a5,a6⟩
  ·rw [a1,Za];simp only [outK];rw [Za];simp only [if_true];refine ⟨m',x,?_,a2,hx,a3⟩;rw [F109L2];dsimp only;rw [if_neg (by simp)]
  ·exfalso;have h1:=sum_pl hv ⟨a3,a4⟩ (pl_ne hv ⟨a3,a4⟩) hx.1;have h2:=sum_bound hv (pl_p5 hv hx.1 a5);omega
 | succ r ih =>
  intro g m x hr hg hm hx;obtain ⟨g,rfl⟩:∃q,g=q+2:=⟨g-2,by omega⟩
  have hst:=sets_eq hv;rw [F109L2];dsimp only;rw [if_pos rfl,cutN5 hx.1.len,Za,show F170 x t c.Sheets c.Edges (wl c) m=some x from rfl,Za];unfold F206v1;rcases e103v1L1 hk hv hx.1 t (sets c-1).toNat 1 k m (by omega) (by omega) (by omega) hm with ⟨m',a1,a2,a3⟩|⟨m',S,a1,a2,a3,a4,a5,a6⟩
  ·rw [a1,Za];simp only [outK];rw [Za];simp only [if_true];refine ⟨m',x,?_,a2,hx,a3⟩;rw [F109L2];dsimp only;rw [if_neg (by simp)]
  ·rw [a1,Za];simp only [outK];rw [Za];simp only [Zk,if_false];have h1:=sum_pl hv ⟨a3,a4⟩ (pl_ne hv ⟨a3,a4⟩) hx.1;have hp:=pl_p5 hv hx.1 a5;have h2:=sum_bound hv hp;exact ih (g+1) m' (pl c.Sheets.length S x) (by omega) (by omega) a2 ⟨hp,fun y hy=>by rw [a6];exact hx.2 y hy⟩

theorem opt_some {c:Cs} (hv:Val c):∀(m:Nat) (x:List Int),P5 c x→(cost c x).toNat=m→∃z,Opt c z:=by
 intro m;induction m using Nat.strongRecOn with
 | _ m ih =>
  intro x hx hm;by_cases h:∃y,P5 c y∧cost c y<cost c x
  ·obtain ⟨y,h1,h2⟩:=h;have hs:=hv.sheets
   have h0:0≤cost c y:=(sumN_bound (b:=20000) (by omega) fun i hi=>by
    have a:=most_ok hv hi
    exact mul_near ⟨a.2.2.1,a.2.2.2⟩ (absI_near (near_p5 hv h1 i hi))).1
   exact ih _ (by omega) y h1 rfl
  ·exact ⟨x,hx,fun y hy=>Int.not_lt.1 fun hlt=>h ⟨y,hy,hlt⟩⟩
theorem ag_p5 {c:Cs} (hv:Val c) {x:List Int} (h:Ag c x):P5 c (pad x):=by
 have hs:=hv.sheets;have hl:=h.1;refine ⟨pad_len (by omega),fe_congr hv (fun i hi=>(pad_get (by omega)).symm) h.2,fun i hi=>?_⟩;by_cases h5:i<5
 ·unfold pad;rw [getElem!_pos _ i (by simp;omega),List.getElem_append_right (by omega),List.getElem_replicate]
 ·exact get_end (by rw [pad_len (by omega)];omega)
theorem p5_ag {c:Cs} (hv:Val c) {x:List Int} (h:P5 c x):Ag c (x.take c.Sheets.length):=by
 have hs:=hv.sheets;have hl:=h.len;exact ⟨by simp;omega,fe_congr hv (fun i hi=>(take_get hi (by omega)).symm) h.fe⟩

theorem e66 {k:Nat} {c:Cs} (hk:100≤k) (hv:Val c) (t:Int) :
 ((∀x,¬Ag c x)∧F109 k t c.Sheets c.Edges (wl c) []=some (List.replicate 5 0,false,[])) ∨
 (∃x m,F109 k t c.Sheets c.Edges (wl c) []=some (x,true,m)∧KeptOk c m∧Opt c x∧∀y,Opt c y→Le c x y):=by
 have hs:=hv.sheets;have h5:(List.replicate 5 (0:Int)).length=5:=by simp
 unfold F109;rcases tight (k:=k) (by omega) hv 0 c.Sheets.length (Zx _) t [] with ⟨d,h1,h2,h3,h4,h6⟩|⟨rl,b,h1,h2,_,h3⟩
 ·right;rw [h1,Za];simp only;rw [if_neg (by simp),need_true h5,Za,sub_take (by omega) (by omega),Za]
  have hx0:(List.take (List.replicate 5 (0:Int)).length (List.take ((c.Sheets.length:Int)).toNat d)++List.drop (List.take ((c.Sheets.length:Int)).toNat d).length (List.replicate 5 (0:Int)):List Int)=pad (d.take c.Sheets.length):=by
   unfold pad;rw [h5,Int.toNat_natCast,ZH (l:=d.take c.Sheets.length) (by simp;omega),List.drop_replicate]
  rw [hx0];have hdl:(d.take c.Sheets.length).length=c.Sheets.length:=by simp;omega
  have hag:Ag c (d.take c.Sheets.length):=⟨hdl,fe_congr hv (fun i hi=>by
   rw [chOf_get hi,take_get hi (by omega)];simp only [pf,Int.toNat_natCast]
   omega) h4⟩
  have hx:=ag_p5 hv hag
  have htop:∀z,P5 c z→Le c z (pad (d.take c.Sheets.length)):=fun z hz i hi=>by
   have:=h6 z hz.fe (hz.end_ _ (Zx _)) i (by omega);rw [pad_get (by omega),take_get hi (by omega)];rw [hz.end_ _ (Zx _)] at this;omega
  obtain ⟨z,hz⟩:=opt_some hv _ _ hx rfl;obtain ⟨b,m1,a1,a2,a3⟩:=e88 (k:=k) (by omega) hv hx t (m:=[]) (fun q hq=>by simp at hq);rw [cutN5 hx.len,Za,Za,show F170 (pad (d.take c.Sheets.length)) t c.Sheets c.Edges (wl c) []=some (pad (d.take c.Sheets.length)) from rfl,Za,a1,Za];dsimp only;rw [need_true a3.len,Za];have hsb:=sum_bound hv hx;obtain ⟨m2,x2,b1,b2,b3⟩:=e66L1 (k:=k) (by omega) hv t 60 k m1 _ b (by omega) (by omega) a2 hx a3 ⟨z,hz,htop z hz.1⟩;rw [b1,Za];simp only [outK];have hsb2:=sum_bound hv b3.1;obtain ⟨m3,x3,c1,c2,c3,c4⟩:=e66L2 (k:=k) (by omega) hv t 60 k m2 x2 (by omega) (by omega) b2 b3;rw [c1,Za];simp only;rw [cutN5 c3.1.len,Za,need_true c3.1.len];exact ⟨x3,m3,rfl,c2,c3,fun y hy=>lowest hv c3 c4 hy⟩
 ·left;refine ⟨fun x hx=>h3 x ⟨hx.2,get_end (by rw [hx.1];exact Zx _)⟩,?_⟩;rw [h1,Za];simp only;have hne:rl.length≠0:=by have:=h2.pos;omega
  rw [if_pos (nbeq_pos hne),cutN5 h5,Za,need_true h5,Za,Za]

def LeastOk (c:Cs) (r:List Int×Int×Int):Prop :=
 ((chk c).2.2≠0∧r=([],0,(chk c).2.2)) ∨
 ((chk c).2.2=0∧(∀x,¬Ag c x)∧r=([],0,9)) ∨
 ((chk c).2.2=0∧r.2.2=0∧r.2.1=cost c r.1∧Ag c r.1∧∀y,Ag c y→cost c r.1≤cost c y∧(cost c y=cost c r.1→Le c r.1 y))
theorem LeastOk.len {c:Cs} {r:List Int×Int×Int} (h:LeastOk c r):r.1.length≤5:=by
 rcases h with ⟨_,h⟩|⟨_,_,h⟩|⟨h,_,_,h2,_⟩
 ·rw [h];simp
 ·rw [h];simp
 ·rw [h2.1];exact (chk_val (chk_err h)).sheets.2
theorem e27 {k:Nat} (hk:100≤k) (c:Cs):∃r,F34 k c=some r∧LeastOk c r:=by
 unfold F34;by_cases h:(chk c).2.2=0
 ·have hv:=chk_val (chk_err h);have hs:=hv.sheets;rw [e57 (by omega) h,Za];simp only [outK];rw [if_neg (by simp)];rcases e66 hk hv c.Tol with ⟨h1,h2⟩|⟨x,m,h1,h2,h3,h4⟩
  ·rw [h2,Za];simp only;rw [need_true (by simp),if_pos (by rfl)];exact ⟨_,rfl,.inr (.inl ⟨h,h1,rfl⟩)⟩
  ·have hxl:=h3.1.len;obtain ⟨m2,e1,e2⟩:=e63 (k:=k) (by omega) hv hxl (near_p5 hv h3.1) c.Tol h2;rw [h1,Za];simp only;have hag:=p5_ag hv h3.1;rw [need_true hxl,Za,if_neg (by simp),sub_take (by omega) (by omega),Za,Za,Int.toNat_natCast];unfold F110v9;rw [need_true (by rw [hag.1];omega),Za,need_true (by simp only [Z5,hag.1];omega),Za,Za,cutN5 hxl,Za,e1,Za,List.nil_append];have hget:∀i,i<c.Sheets.length→(x.take c.Sheets.length)[i]! = x[i]! := fun i hi=>take_get hi (by omega);have hcx:cost c (x.take c.Sheets.length)=cost c x:=cost_congr hget;refine ⟨_,rfl,.inr (.inr ⟨h,rfl,hcx.symm,hag,fun y hy=>?_⟩)⟩;have hp:=ag_p5 hv hy;have hcy:cost c (pad y)=cost c y:=cost_pad hy.1;have h5:=h3.2 _ hp;simp only;rw [hcx,←hcy];refine ⟨h5,fun hq i hi=>?_⟩;have:=h4 (pad y) ⟨hp,fun z hz=>by rw [hq];exact h3.2 z hz⟩ i hi;rw [pad_get (by have:=hy.1;omega)] at this;rw [hget i hi];exact this
 ·rw [e57_err (by omega) h,Za];simp only [outK];rw [if_pos (by simpa using h)];exact ⟨_,rfl,.inl ⟨h,rfl⟩⟩

def NamesOk (l:List ByteArray):Prop:=∀i,i<l.length→nameB l[i]! = true∧(l.take i).any (· == l[i]!)=false
theorem shE_iff {before:List Sh} {s:Sh}:shE before s=0↔nameB s.Name=true∧(before.map (·.Name)).any (· == s.Name)=false∧0≤s.Weight∧s.Weight≤20∧0≤s.Most∧s.Most≤6:=by
 have hany:(before.map (·.Name)).any (· == s.Name)=before.any fun x=>x.Name==s.Name:=by rw [List.any_map];rfl
 unfold shE;rw [hany];cases nameB s.Name with
 | false=>simp
 | true =>
  cases before.any fun x=>x.Name==s.Name with
  | true=>simp
  | false =>
   simp only [if_true,Zk,if_false];by_cases h:(okM 0 20 s.Weight&&okM 0 6 s.Most)=true
   ·rw [if_pos h];simp only [Zh,okN_iff] at h;simp [h]
   ·rw [if_neg h];simp only [Zh,okN_iff] at h;simp only [true_and];constructor
    ·intro e;simp at e
    ·intro e;exact absurd ⟨⟨e.1,e.2.1⟩,e.2.2.1,e.2.2.2⟩ h
theorem shF_iff {c:Cs}:shF c c.Sheets 0=none↔∀i,i<c.Sheets.length→shE (c.Sheets.take i) c.Sheets[i]! = 0:=by
 have key:∀(suf pre:List Sh),c.Sheets=pre++suf→(shF c suf pre.length=none↔∀i,pre.length≤i→i<c.Sheets.length→shE (c.Sheets.take i) c.Sheets[i]! = 0):=by
  intro suf;induction suf with
  | nil=>intro pre h;rw [Yh] at h;rw [h];exact ⟨fun _ i h1 h2=>by omega,fun _=>rfl⟩
  | cons x suf ih =>
   intro pre h;have hi:pre.length<c.Sheets.length:=by rw [h];simp
   have hx:c.Sheets[pre.length]! = x:=by rw [getElem!_pos c.Sheets _ hi];simp [h]
   have h2:=ih (pre++[x]) (by simp [h]);simp only [ZE,ZF,Z5,Zw] at h2;rw [shF];by_cases h0:shE (c.Sheets.take pre.length) x=0
   ·rw [if_neg (by simp [h0]),h2];constructor
    ·intro h3 i a b;by_cases e:i=pre.length
     ·subst e;rw [hx];exact h0
     ·exact h3 i (by omega) b
    ·intro h3 i a b;exact h3 i (by omega) b
   ·rw [if_pos (by simp [h0])];constructor
    ·intro e;simp at e
    ·intro h3;have:=h3 pre.length (Zx _) hi;rw [hx] at this;exact absurd this h0
 have:=key c.Sheets [] rfl;simp only [Z5] at this;rw [this];exact ⟨fun h i hi=>h i (by omega) hi,fun h i _ hi=>h i hi⟩
theorem chk_zero {c:Cs}:(chk c).2.2=0↔(0≤c.Tol∧c.Tol≤50)∧(1≤c.Sheets.length∧c.Sheets.length≤5)∧c.Edges.length≤8∧NamesOk (c.Sheets.map (·.Name))∧(∀s∈c.Sheets,0≤s.Weight∧s.Weight≤20∧0≤s.Most∧s.Most≤6)∧∀x∈c.Edges,egE c.Sheets.length x=0:=by
 have hsh:(∀i,i<c.Sheets.length→shE (c.Sheets.take i) c.Sheets[i]! = 0)↔NamesOk (c.Sheets.map (·.Name))∧∀s∈c.Sheets,0≤s.Weight∧s.Weight≤20∧0≤s.Most∧s.Most≤6:=by
  have hg:∀i,i<c.Sheets.length→(c.Sheets.map (·.Name))[i]! = c.Sheets[i]!.Name:=fun i hi=>by
   rw [getElem!_pos _ i (by simpa using hi),getElem!_pos c.Sheets i hi];simp
  constructor
  ·intro h;refine ⟨fun i hi=>?_,fun s hs=>?_⟩
   ·simp only [Zg] at hi;have:=shE_iff.1 (h i hi);rw [hg i hi,←YG];exact ⟨this.1,this.2.1⟩
   ·obtain ⟨i,hi,rfl⟩:=List.getElem_of_mem hs;have:=shE_iff.1 (h i hi);rw [getElem!_pos c.Sheets i hi] at this;exact this.2.2
  ·rintro ⟨h1,h2⟩ i hi;have a:=h1 i (by simpa using hi);rw [hg i hi,←YG] at a;exact shE_iff.2 ⟨a.1,a.2,h2 _ (mem_get hi)⟩
 constructor
 ·intro h;have hv:=chk_val (chk_err h);have h2:=chk_err h;unfold chk at h2;rw [if_pos (okN_iff.2 hv.tol)] at h2;rw [if_pos (by rw [okN_iff.2 (by have:=hv.sheets;omega)];simp;have:=hv.edges;omega)] at h2;refine ⟨hv.tol,hv.sheets,hv.edges,?_⟩;cases hs:shF c c.Sheets 0 with
  | some p=>rw [hs] at h2;simp at h2
  | none =>
   have:=hsh.1 (shF_iff.1 hs);exact ⟨this.1,this.2,fun x hx=>egE_zero.2 (hv.eg x hx)⟩
 ·rintro ⟨h1,h2,h3,h4,h5,h6⟩;unfold chk;rw [if_pos (okN_iff.2 h1),if_pos (by rw [okN_iff.2 (by omega)];simp;omega),shF_iff.2 (hsh.2 ⟨h4,h5⟩),egF_none.2 h6]
theorem tmod_in {n m:Int} (h:0≤n) (hm:0<m):0≤n.tmod m∧n.tmod m<m:=⟨Int.tmod_nonneg _ h,Int.tmod_lt_of_pos _ hm⟩

def cmpL:List Int→List Int→Int
 | [],[]=>0
 | [],_::_ => -1
 | _::_,[]=>1
 | x::a,y::b=>if x<y then -1 else if x>y then 1 else cmpL a b
theorem cmpL_trans:∀(a b c:List Int),cmpL a b≤0→cmpL b c≤0→cmpL a c≤0:=by
 intro a;induction a with
 | nil=>intro b c _ _;cases c<;>simp [cmpL]
 | cons x a ih =>
  intro b c h1 h2;cases b with
  | nil=>simp [cmpL] at h1
  | cons y b =>
   cases c with
   | nil=>simp [cmpL] at h2
   | cons z c =>
    rw [cmpL] at h1 h2 ⊢;by_cases a1:x<y
    ·by_cases b1:y<z
     ·rw [if_pos (by omega)];omega
     ·by_cases b2:y>z
      ·rw [if_neg b1,if_pos b2] at h2;omega
      ·rw [if_pos (by omega)];omega
    ·by_cases a2:x>y
     ·rw [if_neg a1,if_pos a2] at h1;omega
     ·rw [if_neg a1,if_neg a2] at h1;by_cases b1:y<z
      ·rw [if_pos (by omega)];omega
      ·by_cases b2:y>z
       ·rw [if_neg b1,if_pos b2] at h2;omega
       ·rw [if_neg b1,if_neg b2] at h2;rw [if_neg (by omega),if_neg (by omega)];exact ih b c h1 h2

def Bet (a b:List Int):Prop:=a.length<b.length∨(a.length=b.length∧cmpL a b≤0)
theorem Bet.trans {a b c:List Int} (h:Bet a b) (g:Bet b c):Bet a c:=by
 rcases h with h|⟨h,h2⟩<;>rcases g with g|⟨g,g2⟩
 ·exact .inl (by omega)
 ·exact .inl (by omega)
 ·exact .inl (by omega)
 ·exact .inr ⟨by omega,cmpL_trans a b c h2 g2⟩
set_option linter.all false

def Small (x:List Int):Prop:=(∀v∈x,0≤v∧v≤255)∧x.length≤9223372036854775807
theorem i64_id {n:Int} (h1 : -9223372036854775808≤n) (h2:n≤9223372036854775807):IntKind.i64.wrap n=n:=w64_id h1 h2
theorem e77 {x:List Int} (hx:Small x) {n:Int} (hn:0≤n):∃v,F107 x n=some v∧0≤v∧v≤255:=by
 unfold F107;by_cases h:x.length=0
 ·rw [if_pos (by simp [h])];exact ⟨0,rfl,by omega,by omega⟩
 ·have hp:(0:Int)<(x.length:Int):=by omega
  have h1:0≤n.tmod (x.length:Int):=Int.tmod_nonneg _ hn;have h2:n.tmod (x.length:Int)<(x.length:Int):=Int.tmod_lt_of_pos _ hp;have h3:=hx.1 _ (mem_get (l:=x) (i:=(n.tmod (x.length:Int)).toNat) (by omega));rw [if_neg (by simpa using h),need_true (by omega),Za,idx_bang h1 h2,Za,i64_id (by omega) (by omega)];exact ⟨_,rfl,h3⟩
theorem e37 {k:Nat} {c:Cs} (hk:10≤k) (hv:Val c) {x:List Int} (hx:Small x):∃l,F106 k c x=some l∧inR c l:=by
 have hs:=hv.sheets
 have key:∀(m i g:Nat) (s:List Int),m+i=c.Sheets.length→m<g→s.length=i→(∀j,j<i → -c.Sheets[j]!.Most≤s[j]! ∧ s[j]! ≤ c.Sheets[j]!.Most)→∃l,F106L1 c x g ((i:Int),s)=some (.inr l)∧inR c l:=by
  intro m;induction m with
  | zero =>
   intro i g s hm hg hs' hb;obtain ⟨g,rfl⟩:∃q,g=q+1:=⟨g-1,by omega⟩
   refine ⟨s,?_,by omega,fun j hj=>hb j (by omega)⟩;rw [F106L1];dsimp only;rw [if_neg (by simp;omega)]
  | succ m ih =>
   intro i g s hm hg hs' hb;obtain ⟨g,rfl⟩:∃q,g=q+1:=⟨g-1,by omega⟩
   have hi:i<c.Sheets.length:=by omega
   have hmo:=most_ok hv hi;obtain ⟨v,h1,h2,h3⟩:=e77 hx (n:=(i:Int)) (by omega);have t1:0≤v.tmod (2*c.Sheets[i]!.Most+1):=Int.tmod_nonneg _ h2;have t2:v.tmod (2*c.Sheets[i]!.Most+1)<2*c.Sheets[i]!.Most+1:=Int.tmod_lt_of_pos _ (by omega);rw [F106L1];dsimp only;rw [if_pos (by simp;omega),idx_nat hi,Za,h1,Za,w64_id (n:=2*c.Sheets[i]!.Most) (by omega) (by omega),w64_id (n:=2*c.Sheets[i]!.Most+1) (by omega) (by omega),need_true (by omega),Za,w64_id (n:=v.tmod _-_) (by omega) (by omega),need_true (by simp only [ZF,Z5];omega),Za,w64_id (n:=(i:Int)+1) (by omega) (by omega)];refine ih (i+1) g (s++[v.tmod (2*c.Sheets[i]!.Most+1)-c.Sheets[i]!.Most]) (by omega) (by omega) (by simp;omega) (fun j hj=>?_);subst hs';by_cases e:j<s.length
   ·rw [getElem!_pos (s++_) j (by simp;omega),List.getElem_append_left e];have:=hb j e;rw [getElem!_pos s j e] at this;exact this
   ·have e2:j=s.length:=by omega
    subst e2
    have e3:(s++[v.tmod (2*c.Sheets[s.length]!.Most+1)-c.Sheets[s.length]!.Most])[s.length]! = v.tmod (2*c.Sheets[s.length]!.Most+1)-c.Sheets[s.length]!.Most:=by
     rw [getElem!_pos (s++_) _ (by simp),List.getElem_append_right (Zx _)];simp
    rw [e3];omega
 obtain ⟨l,h1,h2⟩:=key c.Sheets.length 0 k [] (by omega) (by omega) rfl (fun j hj=>by omega);unfold F106;rw [show ((0:Int),([]:List Int))=(((0:Nat):Int),[]) from rfl,h1,Za];exact ⟨l,rfl,h2⟩
set_option maxRecDepth 100000

def Low (c:Cs) (x:List Int):Prop:=Ag c x∧∀y,Ag c y→cost c x≤cost c y∧(cost c y=cost c x→Le c x y)

structure FoundOk (c:Cs) (j:Nat) (E:List Int→Prop) (is:Bool) (best:List Int) (lo hi:Int):Prop where
 yes:is=true→E best∧(∀x,E x→cost c best≤cost c x)∧(∃x,E x∧x[j]! = lo)∧(∃x,E x∧x[j]! = hi)∧∀x,E x→lo≤x[j]! ∧ x[j]! ≤ hi
 no:is=false→∀x,¬E x
 low:∀x,Low c x→E x→is=true∧best=x
theorem FoundOk.congr {c:Cs} {j:Nat} {E F:List Int→Prop} {is:Bool} {best:List Int} {lo hi:Int} (h:FoundOk c j E is best lo hi) (he:∀x,E x↔F x):FoundOk c j F is best lo hi:=by
 have:E=F:=funext fun x=>propext (he x);rw [←this];exact h
theorem FoundOk.empty {c:Cs} {j:Nat} {E:List Int→Prop} {best:List Int} {lo hi:Int} (h:∀x,¬E x):FoundOk c j E false best lo hi :=
 ⟨fun e=>by simp at e,fun _=>h,fun x _ hx=>absurd hx (h x)⟩
set_option linter.all false
set_option linter.all false
set_option linter.all false
end Go.Proofs.YtkcgfceihpampaaGreatDoor
