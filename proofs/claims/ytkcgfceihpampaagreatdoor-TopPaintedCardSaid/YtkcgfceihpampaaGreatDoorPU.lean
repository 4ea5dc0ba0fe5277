/- Truths of a sheet, and notes told of one. -/
import Derived.Test.YtkcgfceihpampaaGreatDoorPT
import Derived.Test.YtkcgfceihpampaaGreatDoorPQ
namespace Go.Proofs.YtkcgfceihpampaaGreatDoor
open Go Go.Sx
set_option linter.all false
set_option maxRecDepth 100000

theorem f80 {x:List Int} (hx:Tn x) {i:Int} (hi:0≤i):∃t,F80 x i=some t∧0≤t∧t≤65535:=e44 hx hi
theorem f18 {s:S_api_ShSheet} (hp:s.Points.length≤8) {x:List Int} (hx:Tn x):Ok (F18 200 s x) (fun h=>h.length=s.Points.length∧∀n∈h,0≤n∧n≤9000):=by
 unfold F18
 rw [ok_bind]
 have key:=ok_loop (f:=F18L1 s x) (fun c=>∃i:Nat,c.1=i∧i≤s.Points.length∧c.2.length=i∧∀n∈c.2,0≤n∧n≤9000) (fun c=>s.Points.length-c.1.toNat) (fun o=>∃h,o = .inr h∧h.length=s.Points.length∧∀n∈h,0≤n∧n≤9000) (by
  rintro n ⟨i',l⟩ ⟨i,hi,hil,hl,hb⟩ ih
  simp only at hi hl hb
  subst hi
  rw [F18L1]
  simp only
  by_cases hlt:i<s.Points.length
  ·obtain ⟨t,ht,h0,h1⟩:=f80 hx (i:=(i:Int)) (by omega)
   rw [if_pos (by simp;omega),ht,Option.bind_some,need_true (by simp;omega),Option.bind_some,w64_id (by omega) (by omega),Int.tmod_eq_emod_of_nonneg h0]
   refine ih _ ⟨i+1,by simp,by omega,by simp [hl],fun m hm=>?_⟩ (by simp only;omega)
   rcases List.mem_append.1 hm with h|h
   ·exact hb m h
   ·rw [List.mem_singleton] at h;omega
  ·rw [if_neg (by simp;omega),ok_some]
   exact ⟨l,rfl,by omega,hb⟩) 200 (0,[]) ⟨0,rfl,by omega,rfl,by simp⟩ (by simp only;omega)
 refine key.mono ?_
 rintro o ⟨h,rfl,h1,h2⟩
 rw [outK_inr,ok_some]
 exact ⟨h1,h2⟩


def tr (hl:List Int) (k:Nat):Int:=if k<hl.length then hl[k]! else 0
theorem f81 {s:S_api_ShSheet} {y:S_api_ShNote}:Ok (F81 200 ⟨s.Interval,s.Points,[y]⟩) (fun b=>b=true→NoteV s.Interval s.Points.length y):=by
 unfold F81
 rw [ok_bind]
 refine f16.mono fun r hr=>?_
 rw [ok_some]
 intro h
 exact (hr.1 (by simpa using h)).notes y (by simp)
def TlI (s:S_api_ShSheet) (hl:List Int) (ns:List S_api_ShNote):Prop:=∀x∈ns,NoteV s.Interval s.Points.length x∧Holds s.Interval x 0 (tr hl)
theorem told_step {s:S_api_ShSheet} {hl off:List Int} {y:S_api_ShNote} {n i:Nat} {acc:List S_api_ShNote} {Q:S_api_ShSheet⊕List S_api_ShNote→Prop} (hy:NoteV s.Interval s.Points.length y→Holds s.Interval y 0 (tr hl)) (hi:i<100) (hacc:acc.length≤i) (ha:TlI s hl acc)
 (ih:∀acc',acc'.length≤i+1→TlI s hl acc'→Ok (F19L1 200 s hl off n ((i:Int)+1,acc')) Q) :
 Ok ((F81 200 ⟨s.Interval,s.Points,[y]⟩).bind fun b=>if b then ((need ((acc.length+([y]:List S_api_ShNote).length)*40≤140737488355328∧acc.length+([y]:List S_api_ShNote).length≤9223372036854775807)).bind fun _=>F19L1 200 s hl off n (w64 ((i:Int)+1),acc++([y]:List S_api_ShNote))) else (F19L1 200 s hl off n (w64 ((i:Int)+1),acc))) Q:=by
 rw [ok_bind,w64_id (by omega) (by omega)]
 refine f81.mono fun b hb=>?_
 cases b with
 | false=>rw [if_neg (by simp)];exact ih acc (by omega) ha
 | true =>
  rw [if_pos rfl,need_true (by simp;omega),Option.bind_some]
  refine ih _ (by simp;omega) fun x hx=>?_
  rcases List.mem_append.1 hx with h|h
  ·exact ha x h
  ·rw [List.mem_singleton] at h;subst h
   exact ⟨hb rfl,hy (hb rfl)⟩
theorem f19 {s:S_api_ShSheet} (hs:ShOk s) {hl off:List Int} (hlen:hl.length=s.Points.length) (hb:∀n∈hl,0≤n∧n≤9000) (ho:Tn off) :
 Ok (F19 200 s hl off) (fun r=>r.Interval=s.Interval∧r.Points=s.Points∧r.Notes.length≤s.Notes.length∧TlI s hl r.Notes):=by
 have hp:=hs.pts
 have hm:=hs.many
 have hiv:=hs.iv
 have hat:∀{k:Int},0≤k→k<s.Points.length→idx hl k=some (tr hl k.toNat)∧0≤tr hl k.toNat∧tr hl k.toNat≤9000:=by
  intro k h0 h1
  have e:tr hl k.toNat=hl[k.toNat]! := by unfold tr;rw [if_pos (by omega)]
  rw [e]
  refine ⟨idx_bang h0 (by omega),?_⟩
  rw [getElem!_pos hl k.toNat (by omega)]
  exact hb _ (List.getElem_mem _)
 have h8:tr hl 8=0:=by unfold tr;rw [if_neg (by omega)]
 unfold F19
 rw [ok_bind]
 have key:=ok_loop (f:=F19L1 200 s hl off) (fun c=>∃i:Nat,c.1=i∧i≤s.Notes.length∧c.2.length≤i∧TlI s hl c.2) (fun c=>s.Notes.length-c.1.toNat) (fun o=>∃ns,o = .inr ns∧ns.length≤s.Notes.length∧TlI s hl ns) (by
  rintro n ⟨i',acc⟩ ⟨i,hi,hil,hl',ha⟩ ih
  simp only at hi hl' ha
  subst hi
  rw [F19L1]
  simp only
  by_cases hlt:i<s.Notes.length
  ·rw [if_pos (by simp;omega),idx_nat hlt,Option.bind_some]
   have hv:=hs.notes s.Notes[i]! (by rw [getElem!_pos s.Notes i hlt];exact List.getElem_mem _)
   generalize s.Notes[i]! = x at hv
   have hA:=hv.a
   have hB:=hv.b
   obtain ⟨ia,a0,a1⟩:=hat hA.1 hA.2
   obtain ⟨ib,b0,b1⟩:=hat hB.1 hB.2
   obtain ⟨t,ht,t0,t1⟩:=f80 ho (i:=2*(i:Int)) (by omega)
   obtain ⟨u,hu,u0,u1⟩:=f80 ho (i:=2*(i:Int)+1) (by omega)
   rw [decide_eq_false (by omega),decide_eq_false (by omega),decide_eq_false (by omega),decide_eq_false (by omega)]
   simp only [cond_false,Bool.false_eq_true,if_false]
   rw [w64_id (n:=2*(i:Int)) (by omega) (by omega),w64_id (n:=2*(i:Int)+1) (by omega) (by omega),ht,Option.bind_some,hu,Option.bind_some,Int.tmod_eq_emod_of_nonneg t0,Int.tmod_eq_emod_of_nonneg u0,ia,ib]
   have m0:=Int.emod_nonneg t (show (50:Int)≠0 by omega)
   have m1:=Int.emod_lt_of_pos t (show (0:Int)<50 by omega)
   have m2:=Int.emod_nonneg u (show (50:Int)≠0 by omega)
   have m3:=Int.emod_lt_of_pos u (show (0:Int)<50 by omega)
   generalize t % 50=p at m0 m1
   generalize u % 50=q at m2 m3
   have ih':∀acc',acc'.length≤i+1→TlI s hl acc'→Ok (F19L1 200 s hl off n ((i:Int)+1,acc')) _:=fun acc' h1 h2=>ih ((i:Int)+1,acc') ⟨i+1,by simp,by omega,h1,h2⟩ (by simp only;omega)
   rcases hv.kind with e|e|e|e
   ·rw [if_pos (by simp [e]),Option.bind_some,Option.bind_some,w64_id (n:=_-p) (by omega) (by omega),w64_id (n:=_+q) (by omega) (by omega)]
    unfold F47
    rw [Option.bind_some]
    refine told_step (fun _=>?_) (by omega) hl' ha ih'
    unfold Holds nlo nhi oth
    dsimp only
    rw [if_neg (show ¬x.Kind=2 by omega),if_neg (show ¬x.Kind=2 by omega),if_pos (show x.Kind=1∨x.Kind=2 from .inl e),h8]
    constructor
    ·split<;>omega
    ·split<;>omega
   ·rw [if_neg (by simp [e]),if_pos (by simp [e]),Option.bind_some,need_true (by omega),Option.bind_some,Option.bind_some,Option.bind_some,Int.tdiv_eq_ediv_of_nonneg a0]
    have d0:=Int.ediv_nonneg a0 (show (0:Int)≤s.Interval by omega)
    have d1:=Int.ediv_le_self s.Interval a0
    have d2:=Int.ediv_mul_le (tr hl x.A.toNat) (show s.Interval≠0 by omega)
    have d3:=Int.lt_ediv_add_one_mul_self (tr hl x.A.toNat) (show 0<s.Interval by omega)
    rw [w64_id (n:=_ / _) (by omega) (by omega),w64_id (n:=_ / _+1) (by omega) (by omega)]
    unfold F47
    rw [Option.bind_some]
    refine told_step (fun _=>?_) (by omega) hl' ha ih'
    unfold Holds nlo nhi oth
    dsimp only
    rw [if_pos e,if_pos e,if_pos (show x.Kind=1∨x.Kind=2 from .inr e),h8]
    omega
   ·rw [if_neg (by simp [e]),if_neg (by simp [e]),if_pos (by simp [e]),Option.bind_some,Option.bind_some]
    by_cases h:tr hl x.A.toNat=tr hl x.B.toNat
    ·rw [if_neg (by simp [h])]
     refine told_step (fun hn=>?_) (by omega) hl' ha ih'
     have:=hn.lake e
     unfold Holds nlo nhi oth
     rw [if_neg (show ¬x.Kind=2 by omega),if_neg (show ¬x.Kind=2 by omega),if_neg (show ¬(x.Kind=1∨x.Kind=2) by omega)]
     omega
    ·rw [if_pos (by simp [h]),w64_id (by omega) (by omega)]
     exact ih' acc (by omega) ha
   ·rw [if_neg (by simp [e]),if_neg (by simp [e]),if_neg (by simp [e]),if_pos (by simp [e]),Option.bind_some,Option.bind_some,w64_id (n:=_-tr hl x.B.toNat) (by omega) (by omega),w64_id (n:=_-p) (by omega) (by omega),w64_id (n:=_+q) (by omega) (by omega)]
    unfold F47
    rw [Option.bind_some,Option.bind_some,outK_inr]
    refine told_step (fun _=>?_) (by omega) hl' ha ih'
    unfold Holds nlo nhi oth
    dsimp only
    rw [if_neg (show ¬x.Kind=2 by omega),if_neg (show ¬x.Kind=2 by omega),if_neg (show ¬(x.Kind=1∨x.Kind=2) by omega)]
    constructor
    ·split<;>omega
    ·split<;>omega
  ·rw [if_neg (by simp;omega),ok_some]
   exact ⟨acc,rfl,by omega,ha⟩) 200 (0,[]) ⟨0,rfl,by omega,by simp,fun x h=>by simp at h⟩ (by simp only;omega)
 refine key.mono ?_
 rintro o ⟨ns,rfl,h1,h2⟩
 rw [outK_inr,ok_some]
 exact ⟨rfl,rfl,h1,h2⟩
end Go.Proofs.YtkcgfceihpampaaGreatDoor
