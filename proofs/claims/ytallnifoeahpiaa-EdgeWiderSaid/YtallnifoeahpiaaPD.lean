/- The reference's Check, and what a case that is right looks like. -/
import Derived.Test.YtallnifoeahpiaaPC
namespace Go.Proofs.Ytallnifoeahpiaa
open Go Go.Sx
set_option linter.all false

theorem e102 {k:Nat} {l:List ByteArray} {nm:ByteArray} (hk:l.length<k) (hl:l.length<2^62):F102v1 k l nm=some (match fstB (fun x=>x==nm) l 0 with|some k=>(k:Int)|none => -1):=by
 unfold F102v1
 obtain ⟨o,h1,h2⟩:=index_loop (l:=l) (L:=F102v1L1 l nm) (p:=fun x=>x==nm) hl
  (fun n i hi=>by rw [F102v1L1,if_pos (by simp;omega),idx_nat hi,Option.bind_some])
  (fun n=>by rw [F102v1L1,if_neg (by simp)]) k hk
 rw [h1,Option.bind_some,h2]
 cases fstB (fun x=>x==nm) l 0<;>rfl
theorem e55 {k:Nat} {before:List Sh} {s:Sh} (hk:17≤k) (hb:before.length≤5):F55v1 k s (before.map (·.Name))=some (shE before s):=by
 unfold F55v1 F84v1 shE
 rw [e101 s.Name hk,Option.bind_some]
 cases hn:nameB s.Name with
 | false=>rfl
 | true =>
  simp only [Bool.not_true,Bool.false_eq_true,if_false,if_true]
  rw [e102 (by simp;omega) (by simp;omega),Option.bind_some]
  have hany:=any_isSome (p:=fun x=>x==s.Name) (l:=before.map (·.Name)) (i:=0)
  rw [List.any_map] at hany
  have hany':(before.any fun x=>x.Name==s.Name)=(fstB (fun x=>x==s.Name) (before.map (·.Name)) 0).isSome:=hany.symm
  rw [hany']
  cases hf:fstB (fun x=>x==s.Name) (before.map (·.Name)) 0 with
  | some j=>simp only [Option.isSome_some,if_true];rw [if_pos (by simp)];rfl
  | none =>
   simp only [Option.isSome_none,Bool.false_eq_true,if_false]
   rw [if_neg (by simp)]
   simp only [Option.bind_some,e54]
   cases okN 0 20 s.Weight<;>cases okN 0 6 s.Most<;>rfl
theorem e56 {k:Nat} {x:Eg} {n:Int} (hk:10≤k) (h0:0≤n) (h1:n≤5):F56 k x n=some (egE n x):=by
 unfold F56 egE
 rw [w64_id (by omega) (by omega),e54,Option.bind_some,e54]
 cases ha:okN 0 (n-1) x.A with
 | false=>rfl
 | true =>
  rw [show optG (!!true) (some (okN 0 (n-1) x.B))=some (okN 0 (n-1) x.B) from rfl,Option.bind_some]
  cases hb:okN 0 (n-1) x.B with
  | false=>rfl
  | true =>
   simp only [Bool.not_true,cond_false,Bool.false_eq_true,if_false,Bool.and_self,if_true]
   cases hq:x.A==x.B with
   | true=>rfl
   | false =>
    simp only [Bool.false_eq_true,if_false]
    rw [e54,Option.bind_some]
    cases hl:okN 1 4 x.Points.length with
    | false=>rfl
    | true =>
     have hl':=okN_iff.1 hl
     simp only [Bool.not_true,Bool.false_eq_true,if_false,if_true]
     have h:=for_loop (l:=x.Points) (L:=F56L1 x) (β:=Int) (γ:=Unit) (σ:=Unit) (fun i _=>(i:Int)) (fun s=>s) (fun i p _=>if okP p then .inr () else .inl 7) (fun _ _=>True) (fun _ _ _ _ _ _=>trivial)
      (fun n i s hi _=>by
       rw [F56L1,if_pos (by simp;omega),idx_nat hi,Option.bind_some,e54,Option.bind_some]
       unfold okP
       cases hpa:okN 0 9000 x.Points[i]!.A with
       | false=>rfl
       | true =>
        simp only [Bool.not_true,Bool.not_false,optG_true,Option.bind_some,e54,Bool.true_and,cond_false]
        cases hpb:okN 0 9000 x.Points[i]!.B with
        | false=>rfl
        | true=>simp only [Bool.not_true,Bool.false_eq_true,if_false,if_true];rw [w64_id (by omega) (by omega)];rfl)
      (fun n s _=>by rw [F56L1,if_neg (by simp)]) k () trivial (by omega)
     rw [show (0:Int)=((0:Nat):Int) from rfl,h,Option.bind_some]
     have hr:∀(l:List Pt) (i:Nat),runE (β:=Int) (fun i p (_:Unit)=>if okP p then .inr () else .inl 7) l i ()=if l.all okP then .inr () else .inl 7:=by
      intro l
      induction l with
      | nil=>intro i;rfl
      | cons p l ih =>
       intro i
       rw [runE,List.all_cons]
       cases okP p with
       | true=>simp only [if_true,Bool.true_and];exact ih (i+1)
       | false=>rfl
     rw [hr]
     cases x.Points.all okP<;>rfl

theorem e17L1 {k:Nat} {c:Cs} (hk:17≤k) (hn:c.Sheets.length≤5):∃s,F17L1 k c k (0,[])=some (match shF c c.Sheets 0 with|some (i,e) => .inl (2,(i:Int),e)|none => .inr s):=by
 have h:=for_loop (l:=c.Sheets) (L:=F17L1 k c) (σ:=List ByteArray) (fun i s=>((i:Int),s)) (fun s=>s)
  (fun i x s=>if shE (c.Sheets.take i) x != 0 then .inl (2,(i:Int),shE (c.Sheets.take i) x) else .inr (s++[x.Name])) (fun i s=>s=(c.Sheets.take i).map (·.Name))
  (fun i s s' hi hs he=>by
   split at he
   ·simp at he
   ·have he':=Sum.inr.inj he
    subst he';subst hs
    rw [List.take_succ_eq_append_getElem hi,List.map_append,getElem!_pos c.Sheets i hi]
    rfl)
  (fun n i s hi hs=>by
   subst hs
   have hlen:(c.Sheets.take i).length≤5:=by rw [List.length_take];omega
   rw [F17L1,if_pos (by simp;omega),idx_nat hi,Option.bind_some,e55 hk hlen,Option.bind_some]
   cases shE (c.Sheets.take i) c.Sheets[i]! != 0 with
   | true=>rfl
   | false =>
    simp only [Bool.false_eq_true,if_false,Option.bind_some]
    rw [need_true (by simp only [List.length_map,List.length_cons,List.length_nil];omega),Option.bind_some,w64_id (by omega) (by omega)]
    rfl)
  (fun n s _=>by rw [F17L1,if_neg (by simp)]) k [] rfl (by omega)
 have hr:∀(l:List Sh) (i:Nat) (s:List ByteArray),∃s',runE (β:=Int×Int×Int) (fun i x (s:List ByteArray)=>if shE (c.Sheets.take i) x != 0 then .inl (2,(i:Int),shE (c.Sheets.take i) x) else .inr (s++[x.Name])) l i s=match shF c l i with|some (i,e) => .inl (2,(i:Int),e)|none => .inr s':=by
  intro l
  induction l with
  | nil=>intro i s;exact ⟨s,rfl⟩
  | cons x l ih =>
   intro i s
   rw [runE,shF]
   cases shE (c.Sheets.take i) x != 0 with
   | true=>exact ⟨s,rfl⟩
   | false=>simp only [Bool.false_eq_true,if_false];exact ih (i+1) _
 obtain ⟨s',hs'⟩:=hr c.Sheets 0 []
 rw [hs'] at h
 refine ⟨s',?_⟩
 rw [show ((0:Int),([]:List ByteArray))=(((0:Nat):Int),[]) from rfl,h]
 cases shF c c.Sheets 0<;>rfl
theorem e17L2 {k:Nat} {c:Cs} (hk:10≤k) (hn:c.Sheets.length≤5) (hm:c.Edges.length≤8):F17L2 k c k 0=some (match egF c.Sheets.length c.Edges 0 with|some (i,e) => .inl (3,(i:Int),e)|none => .inr ()):=by
 have h:=for_loop (l:=c.Edges) (L:=F17L2 k c) (σ:=Unit) (fun i _=>(i:Int)) (fun s=>s) (fun i x _=>if egE c.Sheets.length x != 0 then .inl (3,(i:Int),egE c.Sheets.length x) else .inr ()) (fun _ _=>True) (fun _ _ _ _ _ _=>trivial)
  (fun n i s hi _=>by
   rw [F17L2,if_pos (by simp;omega),idx_nat hi,Option.bind_some,e56 hk (by omega) (by omega),Option.bind_some]
   cases egE c.Sheets.length c.Edges[i]! != 0 with
   | true=>rfl
   | false=>simp only [Bool.false_eq_true,if_false];rw [w64_id (by omega) (by omega)];rfl)
  (fun n s _=>by rw [F17L2,if_neg (by simp)]) k () trivial (by omega)
 rw [egF_run] at h
 rw [show (0:Int)=((0:Nat):Int) from rfl,h]
 cases egF c.Sheets.length c.Edges 0<;>rfl
theorem e17 {k:Nat} (hk:17≤k) (c:Cs):F17 k c=some (chk c):=by
 unfold F17 chk
 rw [e54,Option.bind_some]
 cases okN 0 50 c.Tol with
 | false=>rfl
 | true =>
  simp only [Bool.not_true,Bool.false_eq_true,if_false,if_true]
  rw [e54,Option.bind_some]
  cases hs:okN 1 5 c.Sheets.length with
  | false=>rfl
  | true =>
   have hs':=okN_iff.1 hs
   by_cases he:(c.Edges.length:Int)≤8
   ·obtain ⟨s,h1⟩:=e17L1 (k:=k) (c:=c) hk (by omega)
    rw [if_neg (by simp;omega),if_pos (by simp;omega),h1,Option.bind_some]
    cases shF c c.Sheets 0 with
    | some p=>rfl
    | none =>
     simp only [outK]
     rw [e17L2 (by omega) (by omega) (by omega),Option.bind_some]
     cases egF c.Sheets.length c.Edges 0<;>rfl
   ·rw [if_pos (by simp;omega),if_neg (by simp;omega)]


structure Val (c:Cs):Prop where
 tol:0≤c.Tol∧c.Tol≤50
 sheets:1≤c.Sheets.length∧c.Sheets.length≤5
 edges:c.Edges.length≤8
 sh:∀s∈c.Sheets,0≤s.Weight∧s.Weight≤20∧0≤s.Most∧s.Most≤6
 eg:∀x∈c.Edges,0≤x.A∧x.A<c.Sheets.length∧0≤x.B∧x.B<c.Sheets.length∧x.A≠x.B∧1≤x.Points.length∧x.Points.length≤4∧∀p∈x.Points,0≤p.A∧p.A≤9000∧0≤p.B∧p.B≤9000
theorem egE_zero {n:Int} {x:Eg}:egE n x=0↔0≤x.A∧x.A<n∧0≤x.B∧x.B<n∧x.A≠x.B∧1≤x.Points.length∧x.Points.length≤4∧∀p∈x.Points,0≤p.A∧p.A≤9000∧0≤p.B∧p.B≤9000:=by
 unfold egE
 have hp:x.Points.all okP=true↔∀p∈x.Points,0≤p.A∧p.A≤9000∧0≤p.B∧p.B≤9000:=by
  rw [List.all_eq_true]
  constructor
  ·intro h p hp
   have:=h p hp
   simp only [okP,Bool.and_eq_true,okN_iff] at this
   exact ⟨this.1.1,this.1.2,this.2.1,this.2.2⟩
  ·intro h p hp
   have:=h p hp
   simp only [okP,Bool.and_eq_true,okN_iff]
   exact ⟨⟨this.1,this.2.1⟩,this.2.2.1,this.2.2.2⟩
 split
 ·rename_i h1
  simp only [Bool.and_eq_true,okN_iff] at h1
  split
  ·rename_i h2
   have:=eq_of_beq h2
   constructor
   ·intro h;simp at h
   ·intro h;exact absurd this h.2.2.2.2.1
  ·rename_i h2
   have hne:x.A≠x.B:=fun e=>h2 (by rw [e];simp)
   split
   ·rename_i h3
    have h3':=okN_iff.1 h3
    split
    ·rename_i h4
     exact ⟨fun _=>⟨h1.1.1,by omega,h1.2.1,by omega,hne,by omega,by omega,hp.1 h4⟩,fun _=>rfl⟩
    ·rename_i h4
     exact ⟨fun h=>by simp at h,fun h=>absurd (hp.2 h.2.2.2.2.2.2.2) h4⟩
   ·rename_i h3
    exact ⟨fun h=>by simp at h,fun h=>absurd (okN_iff.2 ⟨by omega,by omega⟩) h3⟩
 ·rename_i h1
  refine ⟨fun h=>by simp at h,fun h=>absurd ?_ h1⟩
  simp only [Bool.and_eq_true,okN_iff]
  omega
theorem shF_none {c:Cs}:∀{l:List Sh} {i:Nat},shF c l i=none→∀s∈l,∃before,shE before s=0:=by
 intro l
 induction l with
 | nil=>intro i _ s hs;simp at hs
 | cons x l ih =>
  intro i h s hs
  rw [shF] at h
  split at h
  ·simp at h
  ·rename_i h1
   rcases List.mem_cons.1 hs with rfl|hs
   ·exact ⟨_,by simpa using h1⟩
   ·exact ih h s hs
theorem egF_none {n:Int}:∀{l:List Eg} {i:Nat},egF n l i=none↔∀x∈l,egE n x=0:=by
 intro l
 induction l with
 | nil=>intro i;simp [egF]
 | cons x l ih =>
  intro i
  rw [egF]
  split
  ·rename_i h1
   exact ⟨fun h=>by simp at h,fun h=>by have:=h x (by simp);simp [this] at h1⟩
  ·rename_i h1
   rw [ih]
   exact ⟨fun h y hy=>(List.mem_cons.1 hy).elim (fun e=>by subst e;simpa using h1) (h y),fun h y hy=>h y (List.mem_cons_of_mem _ hy)⟩
theorem shE_zero {before:List Sh} {s:Sh} (h:shE before s=0):0≤s.Weight∧s.Weight≤20∧0≤s.Most∧s.Most≤6:=by
 unfold shE at h
 split at h
 ·split at h
  ·simp at h
  ·split at h
   ·rename_i h1
    simp only [Bool.and_eq_true,okN_iff] at h1
    omega
   ·simp at h
 ·simp at h
theorem chk_err {c:Cs}:(chk c).2.2=0→chk c=(0,0,0):=by
 unfold chk
 split
 ·split
  ·split
   ·rename_i i e h
    intro he
    simp only at he
    exfalso
    have:∀{l:List Sh} {j:Nat},shF c l j=some (i,e)→e≠0:=by
     intro l
     induction l with
     | nil=>intro j h;simp [shF] at h
     | cons x l ih =>
      intro j h
      rw [shF] at h
      split at h
      ·rename_i h1
       simp only [Option.some.injEq,Prod.mk.injEq] at h
       rw [←h.2];simpa using h1
      ·exact ih h
    exact this h he
   ·split
    ·rename_i i e h
     intro he
     simp only at he
     exfalso
     have:∀{l:List Eg} {j:Nat},egF c.Sheets.length l j=some (i,e)→e≠0:=by
      intro l
      induction l with
      | nil=>intro j h;simp [egF] at h
      | cons x l ih =>
       intro j h
       rw [egF] at h
       split at h
       ·rename_i h1
        simp only [Option.some.injEq,Prod.mk.injEq] at h
        rw [←h.2];simpa using h1
       ·exact ih h
     exact this h he
    ·intro _;rfl
  ·intro h;simp at h
 ·intro h;simp at h
theorem chk_val {c:Cs} (h:chk c=(0,0,0)):Val c:=by
 unfold chk at h
 split at h
 ·rename_i h1
  split at h
  ·rename_i h2
   simp only [Bool.and_eq_true,decide_eq_true_eq] at h2
   split at h
   ·simp at h
   ·rename_i h3
    split at h
    ·simp at h
    ·rename_i h4
     have a1:=okN_iff.1 h1
     have a2:=okN_iff.1 h2.1
     refine ⟨a1,by omega,by omega,fun s hs=>?_,fun x hx=>egE_zero.1 (egF_none.1 h4 x hx)⟩
     obtain ⟨b,hb⟩:=shF_none h3 s hs
     exact shE_zero hb
  ·simp at h
 ·simp at h
end Go.Proofs.Ytallnifoeahpiaa
