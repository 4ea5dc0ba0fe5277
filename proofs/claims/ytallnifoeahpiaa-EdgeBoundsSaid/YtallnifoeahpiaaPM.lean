/- Changes that are begun: what the reference looks at. -/
import Derived.Test.YtallnifoeahpiaaPX
import Derived.Test.YtallnifoeahpiaaDRF
namespace Go.Proofs.Ytallnifoeahpiaa
open Go Go.Sx
set_option linter.all false


structure FeP (c:Cs) (l:List Int):Prop where
 le:l.length≤c.Sheets.length
 box:∀i,i<l.length → -c.Sheets[i]!.Most≤l[i]! ∧ l[i]! ≤ c.Sheets[i]!.Most
 eg:∀e∈c.Edges,e.A<l.length→e.B<l.length→agB c l e=true

def fitB (c:Cs) (l:List Int) (x:Eg):Bool:=if (if x.B>x.A then x.B else x.A)==(l.length:Int)-1 then agB c l x else true
theorem e87 {k:Nat} {c:Cs} (hk:40≤k) (hv:Val c) {l:List Int} (h1:1≤l.length) (hn:∀i,i<l.length → -1000≤l[i]! ∧ l[i]! ≤ 1000) (h5:l.length≤5):F87 k c l=some (c.Edges.all (fitB c l)):=by
 have hs:=hv.sheets
 have hm:=hv.edges
 have h:=for_loop (l:=c.Edges) (L:=F87L1 k c l) (β:=Bool) (γ:=Unit) (σ:=Unit) (fun i _=>(i:Int)) (fun s=>s) (fun i x _=>if fitB c l x then .inr () else .inl false) (fun _ _=>True) (fun _ _ _ _ _ _=>trivial)
  (fun n i s hi _=>by
   have he:=ends hv hi
   rw [F87L1,if_pos (by simp;omega),idx_nat hi,Option.bind_some,w64_id (n:=(l.length:Int)-1) (by omega) (by omega),w64_id (n:=(i:Int)+1) (by omega) (by omega)]
   unfold fitB
   by_cases hq:(if c.Edges[i]!.B>c.Edges[i]!.A then c.Edges[i]!.B else c.Edges[i]!.A)=(l.length:Int)-1
   ·have hb:((if c.Edges[i]!.B>c.Edges[i]!.A then c.Edges[i]!.B else c.Edges[i]!.A)==(l.length:Int)-1)=true:=by simpa using hq
    rw [hb]
    have ha:c.Edges[i]!.A<l.length∧c.Edges[i]!.B<l.length:=by split at hq<;>omega
    simp only [optG_true,cond_true,if_true]
    rw [idx_bang (by omega) (by omega),Option.bind_some,idx_bang (by omega) (by omega),Option.bind_some,e85 (by omega) hv (mem_get hi) (hn _ (by omega)) (hn _ (by omega)),Option.bind_some]
    rw [show okN (want c c.Edges[i]!).1 (want c c.Edges[i]!).2 (l[c.Edges[i]!.A.toNat]! - l[c.Edges[i]!.B.toNat]!)=agB c l c.Edges[i]! from rfl]
    cases agB c l c.Edges[i]! <;> rfl
   ·have hb:((if c.Edges[i]!.B>c.Edges[i]!.A then c.Edges[i]!.B else c.Edges[i]!.A)==(l.length:Int)-1)=false:=by simpa using hq
    rw [hb]
    simp only [optG_false,cond_false,Option.bind_some,Bool.false_eq_true,if_false,if_true]
    rfl)
  (fun n s _=>by rw [F87L1,if_neg (by simp)]) k () trivial (by omega)
 have hr:∀(es:List Eg) (i:Nat),runE (β:=Bool) (fun i (x:Eg) (_:Unit)=>if fitB c l x then .inr () else .inl false) es i ()=if es.all (fitB c l) then .inr () else .inl false:=by
  intro es
  induction es with
  | nil=>intro i;rfl
  | cons x es ih =>
   intro i
   rw [runE,List.all_cons]
   cases fitB c l x with
   | true=>simp only [if_true,Bool.true_and];exact ih (i+1)
   | false=>rfl
 unfold F87
 rw [show (0:Int)=((0:Nat):Int) from rfl,h,Option.bind_some,hr]
 cases c.Edges.all (fitB c l)<;>rfl


def Ext (c:Cs) (begin:List Int) (x:List Int):Prop:=Ag c x∧x.take begin.length=begin
theorem ext_snoc {c:Cs} {begin x:List Int} {v:Int} (hl:begin.length<c.Sheets.length):Ext c (begin++[v]) x↔Ext c begin x∧x[begin.length]! = v:=by
 unfold Ext
 constructor
 ·rintro ⟨h1,h2⟩
  have hxl:=h1.1
  simp only [List.length_append,List.length_cons,List.length_nil,Nat.zero_add] at h2
  rw [List.take_succ_eq_append_getElem (by omega)] at h2
  have h3:=List.append_inj h2 (by simp;omega)
  refine ⟨⟨h1,h3.1⟩,?_⟩
  rw [getElem!_pos x _ (by omega)]
  simpa using h3.2
 ·rintro ⟨⟨h1,h2⟩,h3⟩
  have hxl:=h1.1
  refine ⟨h1,?_⟩
  simp only [List.length_append,List.length_cons,List.length_nil,Nat.zero_add]
  rw [List.take_succ_eq_append_getElem (by omega),h2]
  rw [getElem!_pos x _ (by omega)] at h3
  rw [h3]
theorem ext_get {c:Cs} {begin x:List Int} (h:Ext c begin x) (hl:begin.length≤c.Sheets.length) {i:Nat} (hi:i<begin.length):x[i]! = begin[i]! := by
 have:=h.1.1
 have h2:=take_get (l:=x) (n:=begin.length) (i:=i) hi (by omega)
 rw [h.2] at h2
 exact h2.symm
theorem ext_fits {c:Cs} (hv:Val c) {l x:List Int} (hl:l.length≤c.Sheets.length) (h:Ext c l x):c.Edges.all (fitB c l)=true:=by
 rw [List.all_eq_true]
 intro e he
 unfold fitB
 have hen:=hv.eg e he
 obtain ⟨i,hi',rfl⟩:=List.getElem_of_mem he
 by_cases hq:((if c.Edges[i].B>c.Edges[i].A then c.Edges[i].B else c.Edges[i].A)==(l.length:Int)-1)=true
 ·rw [if_pos hq]
  have hq':=eq_of_beq hq
  have ha:c.Edges[i].A<l.length∧c.Edges[i].B<l.length:=by split at hq'<;>omega
  have:=h.1.2.eg i hi' (keep0 i)
  unfold lo Go.Proofs.Ytallnifoeahpiaa.hi at this
  rw [getElem!_pos c.Edges i hi',ext_get h hl (by omega),ext_get h hl (by omega)] at this
  exact okN_iff.2 this
 ·rw [if_neg hq]
theorem snoc_get {begin:List Int} {v:Int} {i:Nat}:i<begin.length→(begin++[v])[i]! = begin[i]! := fun e=>by
 rw [getElem!_pos (begin++[v]) i (by simp;omega),List.getElem_append_left e,getElem!_pos begin i e]
theorem snoc_last {begin:List Int} {v:Int}:(begin++[v])[begin.length]! = v:=by
 rw [getElem!_pos (begin++[v]) _ (by simp),List.getElem_append_right (Nat.le_refl _)];simp
theorem feP_snoc {c:Cs} (hv:Val c) {begin:List Int} (hb:begin.length<c.Sheets.length) (h:FeP c begin) {v:Int} (h1 : -c.Sheets[begin.length]!.Most≤v) (h2:v≤c.Sheets[begin.length]!.Most) (hf:c.Edges.all (fitB c (begin++[v]))=true):FeP c (begin++[v]):=by
 refine ⟨by simp;omega,fun i hi=>?_,fun e he ha hb'=>?_⟩
 ·simp only [List.length_append,List.length_cons,List.length_nil,Nat.zero_add] at hi
  by_cases e:i<begin.length
  ·rw [snoc_get e];exact h.box i e
  ·have:i=begin.length:=by omega
   subst this
   rw [snoc_last]
   exact ⟨h1,h2⟩
 ·simp only [List.length_append,List.length_cons,List.length_nil,Nat.zero_add] at ha hb'
  have hen:=hv.eg e he
  have hfe:=List.all_eq_true.1 hf e he
  unfold fitB at hfe
  simp only [List.length_append,List.length_cons,List.length_nil,Nat.zero_add] at hfe
  by_cases hq:(if e.B>e.A then e.B else e.A)=(begin.length:Int)
  ·rw [if_pos (by rw [hq];simp)] at hfe
   exact hfe
  ·have hab:e.A<begin.length∧e.B<begin.length:=by split at hq<;>omega
   have:=h.eg e he hab.1 hab.2
   unfold agB at this ⊢
   rw [snoc_get (by omega),snoc_get (by omega)]
   exact this
theorem fe_of_ext {c:Cs} (hv:Val c) {begin:List Int} (hl:begin.length=c.Sheets.length) {x:List Int} (h:Ext c begin x):x=begin:=by
 have:=h.2
 rw [List.take_of_length_le (by rw [h.1.1];omega)] at this
 exact this
theorem ext_self {c:Cs} (hv:Val c) {begin:List Int} (h:FeP c begin) (hl:begin.length=c.Sheets.length):Ext c begin begin:=by
 refine ⟨⟨hl,fun i hi=>h.box i (by omega),fun i hi _=>?_⟩,List.take_of_length_le (Nat.le_refl _)⟩
 have he:=ends hv hi
 have:=h.eg _ (mem_get hi) (by omega) (by omega)
 exact okN_iff.1 this
end Go.Proofs.Ytallnifoeahpiaa
