/- The law EdgeProof. -/
import Derived.Test.YtallnifoeahpiaaRK
import Derived.Test.YtallnifoeahpiaaRF
import Derived.Test.YtallnifoeahpiaaP7
import Derived.Test.YtallnifoeahpiaaDLF
namespace Go.Proofs.Ytallnifoeahpiaa
open Go Go.Sx
set_option linter.all false
theorem e42 {k:Nat} {c:Cs} (hk:10≤k) (hv:Val c):F42 k c=some (dear c):=by
 have hs:=hv.sheets
 have h:=for_fold (l:=c.Sheets) (L:=F42L1 c) (β:=Int) (σ:=Int) (fun i s=>(s,(i:Int))) (fun s=>s) (fun i x s=>s+c.Sheets[i]!.Weight*c.Sheets[i]!.Most) (fun i s=>s=sumN i (fun i=>c.Sheets[i]!.Weight*c.Sheets[i]!.Most))
  (fun i s hi hp=>by rw [hp,sumN])
  (fun n i s hi hp=>by
   have hb:=dears_bd hv i (by omega)
   have hw:=wm_bd hv hi
   rw [F42L1]
   dsimp only
   rw [if_pos (by simp;omega),idx_nat hi,Option.bind_some,Option.bind_some,w64_id (n:=c.Sheets[i]!.Weight*c.Sheets[i]!.Most) (by omega) (by omega),w64_id (n:=s+_) (by omega) (by omega),w64_id (by omega) (by omega)]
   rfl)
  (fun n s _=>by rw [F42L1,if_neg (by simp)]) k 0 rfl (by omega)
 have h2:=foldI_inv (l:=c.Sheets) (fun i (_:Sh) (s:Int)=>s+c.Sheets[i]!.Weight*c.Sheets[i]!.Most) (fun i s=>s=sumN i (fun i=>c.Sheets[i]!.Weight*c.Sheets[i]!.Most)) (fun i s hi hp=>by rw [hp,sumN]) 0 rfl
 unfold F42
 rw [show F42L1 c k (0,0)=_ from h,Option.bind_some,outK_inr,h2]
 rfl
theorem boundE_in {c:Cs} (h:(chk c).2.2=0) {p:List Int} (hl:p.length=c.Edges.length) (hp:okPr p):boundE c p=if soundB c=true then (bound c p,0) else (0,9):=by
 unfold boundE
 rw [if_neg (by simpa using h),if_pos hl,okPr_iff.2 hp,if_pos rfl]

def Mid (x:List Int):Prop:=(∀v∈x,-32768≤v∧v≤32767)∧x.length≤9223372036854775807
theorem e8L1 {k:Nat} {c:Cs} (hk:10≤k) (hm:c.Edges.length≤8) {p:List Int} (hp:Mid p):∃o,F8L1 c p k (0,[])=some (.inr o)∧o.length=c.Edges.length∧okPr o:=by
 have key:∀(r i g:Nat) (s:List Int),r+i=c.Edges.length→r<g→s.length=i→okPr s→∃o,F8L1 c p g ((i:Int),s)=some (.inr o)∧o.length=c.Edges.length∧okPr o:=by
  intro r
  induction r with
  | zero =>
   intro i g s hi hg hs hb
   obtain ⟨g,rfl⟩:∃q,g=q+1:=⟨g-1,by omega⟩
   rw [F8L1]
   dsimp only
   rw [if_neg (by simp;omega)]
   exact ⟨s,rfl,by omega,hb⟩
  | succ r ih =>
   intro i g s hi hg hs hb
   obtain ⟨g,rfl⟩:∃q,g=q+1:=⟨g-1,by omega⟩
   rw [F8L1]
   dsimp only
   rw [if_pos (by simp;omega),w64_id (n:=(i:Int)+1) (by omega) (by omega)]
   by_cases hz:p.length=0
   ·rw [if_neg (by simp [hz]),need_true (by simp only [List.length_cons,List.length_nil];omega),Option.bind_some]
    exact ih (i+1) g (s++[0]) (by omega) (by omega) (by simp;omega) (fun v hv=>by
     rcases List.mem_append.1 hv with hv|hv
     ·exact hb v hv
     ·rw [List.mem_singleton] at hv;omega)
   ·have hpos:(0:Int)<(p.length:Int):=by omega
    have ht:=tmod_in (n:=(i:Int)) (m:=(p.length:Int)) (by omega) hpos
    have hx:=hp.1 _ (mem_get (l:=p) (i:=((i:Int).tmod (p.length:Int)).toNat) (by omega))
    rw [if_pos (decide_eq_true (by omega)),need_true (by omega),Option.bind_some,idx_bang ht.1 ht.2,Option.bind_some,i64_id (by omega) (by omega),need_true (by simp only [List.length_cons,List.length_nil];omega),Option.bind_some]
    exact ih (i+1) g (s++[p[((i:Int).tmod (p.length:Int)).toNat]!]) (by omega) (by omega) (by simp;omega) (fun v hv=>by
     rcases List.mem_append.1 hv with hv|hv
     ·exact hb v hv
     ·rw [List.mem_singleton] at hv;omega)
 exact key c.Edges.length 0 k [] (by omega) (by omega) rfl (fun v hv=>by simp at hv)
theorem law8 (c:Cs) (p x:List Int) (hp:Mid p) (hx:Small x):F8 1000 c p x=some true:=by
 obtain ⟨r,r1,r2⟩:=e40 (k:=1000) (by omega) c
 obtain ⟨l,l1,l2⟩:=e27 (k:=1000) (by omega) c
 unfold F8
 rw [r1,Option.bind_some,l1,Option.bind_some,e36 (by omega),Option.bind_some]
 rcases r2 with ⟨h,rfl⟩|⟨h,hsd,rfl⟩|⟨h,hsd,h3,h4,h5,h6⟩
 ·have hl:l=([],0,(chk c).2.2):=by
   rcases l2 with ⟨_,h2⟩|⟨h2,_⟩|⟨h2,_⟩
   ·exact h2
   ·exact absurd h2 h
   ·exact absurd h2 h
  subst hl
  rw [show ((chk c).2.2==0)=false by simpa using h]
  simp only [Bool.not_false,Bool.not_true,optG_false,Option.bind_some,cond_true,if_true]
  simp only [show ((chk c).2.2 != 0)=true by simpa using h,awake]
  rfl
 ·have hv:=chk_val (chk_err h)

  have hno:∀y,¬Ag c y:=fun y hy=>by
   have:soundB c=true:=sound_iff.2 fun i hi=>by
    have:=hy.2.eg i hi (keep0 i)
    omega
   rw [hsd] at this;simp at this
  have hl:l=([],0,9):=by
   rcases l2 with ⟨h2,_⟩|⟨_,_,h2⟩|⟨_,_,_,h2,_⟩
   ·exact absurd h h2
   ·exact h2
   ·exact absurd h2 (hno _)
  subst hl
  rw [show ((chk c).2.2==0)=true by simpa using h]
  simp only [Bool.not_true,Bool.not_false,optG_true]
  rw [e41 (by omega) hv,Option.bind_some,hsd]
  simp only [cond_false,Bool.not_false,if_true,awake]
  rfl
 ·have hv:=chk_val (chk_err h)
  have hm:=hv.edges
  have hs:=hv.sheets
  obtain ⟨o,o1,o2,o3⟩:=e8L1 (k:=1000) (by omega) hm hp
  obtain ⟨y,y1,y2⟩:=e37 (k:=1000) (by omega) hv hx
  have hweak:∀z,Ag c z→bound c o≤cost c z:=fun z hz=>weak hv hz.2
  rw [show ((chk c).2.2==0)=true by simpa using h]
  simp only [Bool.not_true,Bool.not_false,optG_true]
  rw [e41 (by omega) hv,Option.bind_some,hsd]
  simp only [Bool.not_true,cond_false,Bool.false_eq_true,if_false]

  have hle:(l.2.2=9∧(∀z,¬Ag c z))∨(l.2.2=0∧l.2.1=cost c l.1∧Ag c l.1∧∀z,Ag c z→cost c l.1≤cost c z):=by
   rcases l2 with ⟨h2,_⟩|⟨_,h1,h2⟩|⟨_,h1,h2,h3,h4⟩
   ·exact absurd h h2
   ·exact .inl ⟨by rw [h2],h1⟩
   ·exact .inr ⟨h1,h2,h3,fun z hz=>(h4 z hz).1⟩
  rw [if_neg (by rw [h3,h4];rcases hle with ⟨e,_⟩|⟨e,_⟩<;>rw [e]<;>simp)]
  rw [e30 (by omega),Option.bind_some,e31 (by omega),Option.bind_some,boundE_in h h4 h5,if_pos hsd,if_neg (by simp),o1]
  rw [Option.bind_some,outK_inr]

  have hrest:∀b,b=true→((F30 1000 c o).bind fun x23=>(F37 1000 c x).bind fun x24=>(optG (x23.2==0) (F38 1000 c x24)).bind fun x25=>(optG ((x23.2==0)&&(!(!x25))) (F39 1000 c x24)).bind fun x26=>(optG (cond (cond (x23.2==0) (cond (!x25) true (decide (x23.1≤x26))) false) (cond (l.2.2 != 0) true (decide (x23.1≤l.2.1))) false) (F24 1000)).bind fun x27=>some (cond (cond (cond (x23.2==0) (cond (!x25) true (decide (x23.1≤x26))) false) (cond (l.2.2 != 0) true (decide (x23.1≤l.2.1))) false) x27 false))=some b:=by
   intro b hb
   subst hb
   have hlast:(cond (l.2.2 != 0) true (decide (bound c o≤l.2.1)))=true:=by
    rcases hle with ⟨e,_⟩|⟨e,e2,e3,_⟩
    ·rw [e];rfl
    ·rw [e,e2,decide_eq_true (hweak _ e3)];rfl
   rw [e30 (by omega),Option.bind_some,boundE_in h o2 o3,if_pos hsd,y1,Option.bind_some]
   simp only [beq_self_eq_true,optG_true,cond_true,Bool.true_and,Bool.not_not]
   rw [e38 (by omega) h y2,Option.bind_some,hlast]
   by_cases ho:oddF c y<0
   ·have hag:Ag c y:=ag_iff.2 ⟨y2,ho⟩
    rw [decide_eq_true ho]
    simp only [optG_true,Bool.not_true,cond_false]
    rw [e39 (by omega) hv y2.1 (near_inR hv y2),Option.bind_some,decide_eq_true (hweak y hag)]
    simp only [cond_true,optG_true,awake,Option.bind_some]
   ·rw [decide_eq_false ho]
    simp only [optG_false,Option.bind_some,Bool.not_false,cond_true,optG_true,awake]
  rcases hle with ⟨e,hno⟩|⟨e,e2,e3,e4⟩
  ·have hb:dear c<bound c r.1:=by
    rcases h6 with ⟨_,h6⟩|⟨z,h6,_⟩
    ·exact h6
    ·exact absurd (p5_ag hv h6.1) (hno _)
   rw [show (l.2.2==0)=false by rw [e];rfl,show (l.2.2==9)=true by rw [e];rfl]
   simp only [cond_false,Bool.not_false,Bool.and_self,optG_true]
   rw [e42 (by omega) hv,Option.bind_some,decide_eq_false (by omega),if_neg (by simp)]
   exact hrest true rfl
  ·have hb:bound c r.1=l.2.1:=by
    rcases h6 with ⟨h6,_⟩|⟨z,h6,h7⟩
    ·exact absurd e3 (h6 _)
    ·have a1:=e4 _ (p5_ag hv h6.1)
     have a2:=h6.2 _ (ag_p5 hv e3)
     rw [cost_pad e3.1] at a2
     have a3:cost c (z.take c.Sheets.length)=cost c z:=cost_congr fun i hi=>take_get hi (by have:=h6.1.len;omega)
     omega
   rw [show (l.2.2==0)=true by rw [e];rfl,show (l.2.2==9)=false by rw [e];rfl,hb]
   simp only [cond_true,bne_self_eq_false,Bool.not_false,Bool.and_false,optG_false,Option.bind_some,cond_false,Bool.false_eq_true,if_false]
   exact hrest true rfl
end Go.Proofs.Ytallnifoeahpiaa
