/- All steps of a case, and how far sheets can be above one: what tight comes to. -/
import Derived.Test.YtallnifoeahpiaaPG
import Derived.Test.YtallnifoeahpiaaPT
import Derived.Test.YtallnifoeahpiaaDED
namespace Go.Proofs.Ytallnifoeahpiaa
open Go Go.Sx
set_option linter.all false


def keep (w:Int) (i:Nat):Bool:=(Go.bits .and .i64 (w / 2^min i 64) 1)==0
theorem keep0 (i:Nat):keep 0 i=true:=by
 unfold keep
 rw [Int.zero_ediv]
 rfl
def stA (c:Cs) (i:Nat):Sp:=⟨c.Edges[i]!.B,c.Edges[i]!.A,hi c i,i,-1⟩
def stB (c:Cs) (i:Nat):Sp:=⟨c.Edges[i]!.A,c.Edges[i]!.B,0-lo c i,i,1⟩
def stU (c:Cs) (i:Nat):Sp:=⟨c.Sheets.length,i,c.Sheets[i]!.Most,-1,0⟩
def stD (c:Cs) (i:Nat):Sp:=⟨i,c.Sheets.length,c.Sheets[i]!.Most,-1,0⟩
def lsE (c:Cs) (w:Int):List Sp:=foldI (fun i x (s:List Sp)=>if keep w i then s++[⟨x.B,x.A,(want c x).2,i,-1⟩,⟨x.A,x.B,w64 (0-(want c x).1),i,1⟩] else s) c.Edges 0 []
def lsA (c:Cs) (w:Int):List Sp:=foldI (fun i x (s:List Sp)=>s++[⟨c.Sheets.length,i,x.Most,-1,0⟩,⟨i,c.Sheets.length,x.Most,-1,0⟩]) c.Sheets 0 (lsE c w)
theorem mem_lsE {c:Cs} (hv:Val c) {w:Int}:(∀y,y∈lsE c w↔∃i,i<c.Edges.length∧keep w i=true∧(y=stA c i∨y=stB c i))∧(lsE c w).length≤2*c.Edges.length:=by
 unfold lsE
 refine foldI_inv (l:=c.Edges) _ (fun j (s:List Sp)=>(∀y,y∈s↔∃i,i<j∧keep w i=true∧(y=stA c i∨y=stB c i))∧s.length≤2*j) ?_ [] ⟨fun y=>⟨fun h=>by simp at h,fun ⟨i,h,_⟩=>by omega⟩,by simp⟩
 intro i s hi' hp
 have hb:=want_bound hv (mem_get hi')
 have hw:w64 (0-(want c c.Edges[i]!).1)=0-(want c c.Edges[i]!).1:=w64_id (by omega) (by omega)
 cases hk:keep w i with
 | true =>
  simp only [hk,if_true,List.length_append,List.length_cons,List.length_nil]
  refine ⟨fun y=>?_,by omega⟩
  rw [List.mem_append,hp.1,hw]
  constructor
  ·rintro (⟨q,h1,h2⟩|h)
   ·exact ⟨q,by omega,h2⟩
   ·simp only [List.mem_cons,List.not_mem_nil,or_false] at h
    exact ⟨i,by omega,hk,h⟩
  ·rintro ⟨q,h1,h2,h3⟩
   by_cases hq:q=i
   ·subst hq
    right
    simp only [List.mem_cons,List.not_mem_nil,or_false]
    exact h3
   ·exact .inl ⟨q,by omega,h2,h3⟩
 | false =>
  simp only [hk,Bool.false_eq_true,if_false]
  refine ⟨fun y=>?_,by omega⟩
  rw [hp.1]
  constructor
  ·rintro ⟨q,h1,h2⟩;exact ⟨q,by omega,h2⟩
  ·rintro ⟨q,h1,h2,h3⟩
   by_cases hq:q=i
   ·subst hq;rw [hk] at h2;simp at h2
   ·exact ⟨q,by omega,h2,h3⟩
theorem mem_lsA {c:Cs} (hv:Val c) {w:Int}:(∀y,y∈lsA c w↔(∃i,i<c.Edges.length∧keep w i=true∧(y=stA c i∨y=stB c i))∨∃i,i<c.Sheets.length∧(y=stU c i∨y=stD c i))∧(lsA c w).length≤26:=by
 have h:=foldI_inv (l:=c.Sheets) (fun i x (s:List Sp)=>s++[⟨c.Sheets.length,i,x.Most,-1,0⟩,⟨i,c.Sheets.length,x.Most,-1,0⟩]) (fun j (s:List Sp)=>(∀y,y∈s↔y∈lsE c w∨∃i,i<j∧(y=stU c i∨y=stD c i))∧s.length≤(lsE c w).length+2*j)
  (fun i s hi' hp=>by
   simp only [List.length_append,List.length_cons,List.length_nil]
   refine ⟨fun y=>?_,by omega⟩
   rw [List.mem_append,hp.1]
   constructor
   ·rintro ((h|⟨q,h1,h2⟩)|h)
    ·exact .inl h
    ·exact .inr ⟨q,by omega,h2⟩
    ·simp only [List.mem_cons,List.not_mem_nil,or_false] at h
     exact .inr ⟨i,by omega,h⟩
   ·rintro (h|⟨q,h1,h2⟩)
    ·exact .inl (.inl h)
    ·by_cases hq:q=i
     ·subst hq
      right
      simp only [List.mem_cons,List.not_mem_nil,or_false]
      exact h2
     ·exact .inl (.inr ⟨q,by omega,h2⟩)) (lsE c w) ⟨fun y=>⟨fun h => .inl h,fun h=>h.elim id fun ⟨i,h,_⟩=>by omega⟩,by omega⟩
 have h2:=mem_lsE hv (w:=w)
 have hs:=hv.sheets
 have he:=hv.edges
 refine ⟨fun y=>?_,?_⟩
 ·have:=h.1 y
  rw [h2.1] at this
  exact this
 ·have h3:(lsA c w).length≤(lsE c w).length+2*c.Sheets.length:=h.2
  omega

theorem e86 {k:Nat} {c:Cs} (hk:10≤k) (hv:Val c) {w:Int} (t:Int) (m:List (List Int×Int)):F86 k w t c.Sheets c.Edges (wl c) m=some (lsA c w):=by
 have hs:=hv.sheets
 have he:=hv.edges
 have h1:=for_fold (l:=c.Edges) (L:=F86L1 w c.Edges (wl c)) (β:=List Sp) (σ:=List Sp) (fun i s=>((i:Int),s)) (fun s=>s) (fun i x (s:List Sp)=>if keep w i then s++[⟨x.B,x.A,(want c x).2,i,-1⟩,⟨x.A,x.B,w64 (0-(want c x).1),i,1⟩] else s) (fun i s=>s.length≤2*i)
  (fun i s hi' hp=>by
   split
   ·simp;omega
   ·omega)
  (fun n i s hi' hp=>by
   have hw:=(wl_inv hv.edges).2 i hi'
   rw [F86L1]
   dsimp only
   rw [if_pos (by simp;omega),idx_nat hi',Option.bind_some,need_true (by omega),Option.bind_some,Int.toNat_natCast,show (Go.bits .and .i64 (w / 2^min i 64) 1==0)=keep w i from rfl]
   cases hk:keep w i with
   | true =>
    rw [if_pos rfl,need_true (by omega),Option.bind_some,hw.2,Option.bind_some,Option.bind_some,hw.1,Option.bind_some,need_true (by simp;omega),Option.bind_some,if_pos rfl,w64_id (n:=(i:Int)+1) (by omega) (by omega)]
    rfl
   | false =>
    rw [if_neg (by simp),if_neg (by simp),w64_id (n:=(i:Int)+1) (by omega) (by omega)]
    rfl)
  (fun n s _=>by rw [F86L1,if_neg (by simp)]) k [] (by simp) (by omega)
 have h2:=for_fold (l:=c.Sheets) (L:=F86L2 c.Sheets) (β:=List Sp) (σ:=List Sp) (fun i s=>((i:Int),s)) (fun s=>s) (fun i x (s:List Sp)=>s++[⟨c.Sheets.length,i,x.Most,-1,0⟩,⟨i,c.Sheets.length,x.Most,-1,0⟩]) (fun i s=>s.length≤16+2*i)
  (fun i s hi' hp=>by simp;omega)
  (fun n i s hi' hp=>by
   rw [F86L2]
   dsimp only
   rw [if_pos (by simp;omega),idx_nat hi',Option.bind_some,need_true (by simp;omega),Option.bind_some,w64_id (n:=(i:Int)+1) (by omega) (by omega)]
   rfl)
  (fun n s _=>by rw [F86L2,if_neg (by simp)]) k (lsE c w) (by have:=(mem_lsE hv (w:=w)).2;omega) (by omega)
 unfold F86
 rw [show ((0:Int),([]:List Sp))=(((0:Nat):Int),[]) from rfl,h1,Option.bind_some]
 simp only [outK]
 rw [show F86L2 c.Sheets k (0,foldI (fun i x (s:List Sp)=>if keep w i then s++[⟨x.B,x.A,(want c x).2,i,-1⟩,⟨x.A,x.B,w64 (0-(want c x).1),i,1⟩] else s) c.Edges 0 [])=F86L2 c.Sheets k (((0:Nat):Int),lsE c w) from rfl,h2,Option.bind_some]
 rfl
end Go.Proofs.Ytallnifoeahpiaa
