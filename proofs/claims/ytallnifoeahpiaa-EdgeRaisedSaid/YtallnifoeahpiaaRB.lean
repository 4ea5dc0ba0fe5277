/- The law EdgeRaised. -/
import Derived.Test.YtallnifoeahpiaaRA
import Derived.Test.YtallnifoeahpiaaR2
import Derived.Test.YtallnifoeahpiaaDLL
namespace Go.Proofs.Ytallnifoeahpiaa
open Go Go.Sx
set_option linter.all false
theorem asc_len {m:Nat} (h8:m≤8) {l:List Int} (h:Asc m l):l.length≤m:=by
 obtain ⟨S,_,_,rfl⟩:=asc_bits h8 h
 unfold bitsL bitsN
 rw [List.length_map]
 exact Nat.le_trans (List.length_filter_le _ _) (by simp)
theorem WithoutOk.len {c:Cs} {r:List Int×Int} (h:WithoutOk c r):r.1.length≤8:=by
 rcases h with ⟨_,rfl⟩|⟨h1,_,h2,_⟩
 ·simp
 ·have hm:=(chk_val (chk_err h1)).edges
  exact Nat.le_trans (asc_len hm h2) hm
theorem rs_feas {n:Int} {c:Cs} (hv:Val c) (hw:Val (rsC (-1) n c)) (l:List Int):Feas (rsC (-1) n c) l↔Feas c l:=by
 have key:∀(x:List Int) (i:Nat),i<c.Edges.length→((lo (rsC (-1) n c) i≤x[(rsC (-1) n c).Edges[i]!.A.toNat]! - x[(rsC (-1) n c).Edges[i]!.B.toNat]! ∧ x[(rsC (-1) n c).Edges[i]!.A.toNat]! - x[(rsC (-1) n c).Edges[i]!.B.toNat]! ≤ hi (rsC (-1) n c) i)↔(lo c i≤x[c.Edges[i]!.A.toNat]! - x[c.Edges[i]!.B.toNat]! ∧ x[c.Edges[i]!.A.toNat]! - x[c.Edges[i]!.B.toNat]! ≤ hi c i)):=fun x i hi'=>by
  have:=rs_acc hv hw hi' (x[c.Edges[i]!.A.toNat]! - x[c.Edges[i]!.B.toNat]!)
  have e:rsS (-1) n c.Edges[i]! = 0:=if_pos (by omega)
  rw [e,Int.add_zero] at this
  have e1:(rsC (-1) n c).Edges[i]!.A=c.Edges[i]!.A:=by rw [rs_get hi'];rfl
  have e2:(rsC (-1) n c).Edges[i]!.B=c.Edges[i]!.B:=by rw [rs_get hi'];rfl
  rw [e1,e2]
  exact this
 unfold Feas
 rw [rs_len]
 exact ⟨fun ⟨x,h1,h2,h3⟩=>⟨x,h1,h2,fun i hi hn=>(key x i hi).1 (h3 i hi hn)⟩,fun ⟨x,h1,h2,h3⟩=>⟨x,h1,h2,fun i hi hn=>(key x i hi).2 (h3 i hi hn)⟩⟩
theorem foldI_map {α β:Type} (f:α→β):∀(l:List α) (i:Nat) (s:List β),foldI (fun _ x s=>s++[f x]) l i s=s++l.map f:=by
 intro l
 induction l with
 | nil=>intro i s;simp [foldI]
 | cons x l ih=>intro i s;rw [foldI,ih];simp
theorem e47 {k:Nat} {c:Cs} (hk:10≤k) (hv:Val c) (s n:Int) (hn:0≤n∧n≤65535):F47 k c s n=some (rsC s n c):=by
 have hm:=hv.edges
 have hb:∀a:Int,(cond (decide (s<0)) true (a==s))=decide (s<0∨a=s):=fun a=>by
  by_cases h0:s<0
  ·rw [decide_eq_true h0,decide_eq_true (.inl h0)];rfl
  ·rw [decide_eq_false h0,cond_false]
   by_cases h1:a=s
   ·rw [decide_eq_true (.inr h1)];simpa using h1
   ·rw [decide_eq_false (by omega)];simpa using h1
 have hpts:∀(i:Nat) (q:Int×List Eg),i<c.Edges.length→q.1=(i:Int)→F47L2 c s n q c.Edges[i]! k (0,[])=some (.inr (c.Edges[i]!.Points.map (rsP s n c.Edges[i]!.A c.Edges[i]!.B))):=by
  intro i q hi hq
  have he:=hv.eg _ (mem_get hi)
  have h:=for_fold (l:=c.Edges[i]!.Points) (L:=F47L2 c s n q c.Edges[i]!) (β:=Cs) (σ:=List Pt) (fun j u=>((j:Int),u)) (fun u=>u) (fun _ p u=>u++[rsP s n c.Edges[i]!.A c.Edges[i]!.B p]) (fun j u=>u.length=j)
   (fun j u hj hu=>by simp [hu])
   (fun g j u hj hu=>by
    have hp:=he.2.2.2.2.2.2.2 _ (mem_get hj)
    rw [F47L2]
    dsimp only
    rw [hq,idx_nat hi,Option.bind_some,if_pos (decide_eq_true (by omega)),Option.bind_some,idx_nat hj,Option.bind_some,hb,hb,w64_id (n:=(j:Int)+1) (by omega) (by omega),w64_id (n:=c.Edges[i]!.Points[j]!.A+n) (by omega) (by omega),w64_id (n:=c.Edges[i]!.Points[j]!.B+n) (by omega) (by omega)]
    by_cases hA:s<0∨c.Edges[i]!.A=s
    ·rw [if_pos (decide_eq_true hA),Option.bind_some]
     simp only [outK]
     by_cases hB:s<0∨c.Edges[i]!.B=s
     ·rw [if_pos (decide_eq_true hB),need_true (by simp only [List.length_cons,List.length_nil];omega),Option.bind_some]
      simp only [rsP,if_pos hA,if_pos hB];rfl
     ·rw [if_neg (by rw [decide_eq_false hB];simp),need_true (by simp only [List.length_cons,List.length_nil];omega),Option.bind_some]
      simp only [rsP,if_pos hA,if_neg hB];rfl
    ·rw [if_neg (by rw [decide_eq_false hA];simp),Option.bind_some]
     simp only [outK]
     by_cases hB:s<0∨c.Edges[i]!.B=s
     ·rw [if_pos (decide_eq_true hB),need_true (by simp only [List.length_cons,List.length_nil];omega),Option.bind_some]
      simp only [rsP,if_neg hA,if_pos hB];rfl
     ·rw [if_neg (by rw [decide_eq_false hB];simp),need_true (by simp only [List.length_cons,List.length_nil];omega),Option.bind_some]
      simp only [rsP,if_neg hA,if_neg hB];rfl)
   (fun g u hu=>by
    rw [F47L2]
    dsimp only
    rw [hq,idx_nat hi,Option.bind_some,if_neg (by simp)]) k [] rfl (by omega)
  rw [show ((0:Int),([]:List Pt))=(((0:Nat):Int),[]) from rfl,h,foldI_map,List.nil_append]
 have h:=for_fold (l:=c.Edges) (L:=F47L1 k c s n) (β:=Cs) (σ:=List Eg) (fun i u=>((i:Int),u)) (fun u=>u) (fun _ x u=>u++[rsE s n x]) (fun i u=>u.length=i)
  (fun i u hi hu=>by simp [hu])
  (fun g i u hi hu=>by
   rw [F47L1]
   dsimp only
   rw [if_pos (by simp;omega),idx_nat hi,Option.bind_some,hpts i _ hi rfl,Option.bind_some]
   simp only [outK]
   rw [need_true (by simp only [List.length_cons,List.length_nil];omega),Option.bind_some,w64_id (n:=(i:Int)+1) (by omega) (by omega)]
   rfl)
  (fun g u _=>by rw [F47L1,if_neg (by simp)]) k [] rfl (by omega)
 unfold F47
 rw [show ((0:Int),([]:List Eg))=(((0:Nat):Int),[]) from rfl,h,foldI_map,List.nil_append]
 rfl
theorem wantsE_in {c:Cs} (h:(chk c).2.2=0) {i:Nat} (hi':i<c.Edges.length):wantsE c (i:Int)=if lo c i≤hi c i then (⟨lo c i,hi c i⟩,0) else (⟨0,0⟩,9):=by
 unfold wantsE
 rw [if_neg (by simpa using h),okN_iff.2 (by omega),if_pos rfl,Int.toNat_natCast]
theorem law14 (c:Cs) (n:Int) (which:S__2quint8) (hn:0≤n∧n≤65535) (h0:0≤which.e0∧which.e0≤255) (h1:0≤which.e1∧which.e1≤255):F14 1000 c n which=some true:=by
 unfold F14
 rw [e36 (by omega),Option.bind_some]
 by_cases h:(chk c).2.2=0
 ·have hv:=chk_val (chk_err h)
  have hs:=hv.sheets
  have hm:=hv.edges
  obtain ⟨i0,i1⟩:=tmod_in (n:=which.e0) (m:=(c.Sheets.length:Int)) h0.1 (by omega)
  rw [show ((chk c).2.2==0)=true by simpa using h,if_neg (by simp),i64_id (n:=n) (by omega) (by omega),e47 (by omega) hv _ _ hn,Option.bind_some,show (⟨(rsC (-1) n c).Tol,(rsC (-1) n c).Sheets,(rsC (-1) n c).Edges⟩:S_api_EdCase)=rsC (-1) n c from rfl,e36 (by omega),Option.bind_some]

  have hall:∀R,R=(some (.inr ()):Option (Bool⊕Unit))→(if ((chk (rsC (-1) n c)).2.2==0) then ((F27 1000 c).bind fun x8=>(F27 1000 (rsC (-1) n c)).bind fun x9=>(F32 1000 c).bind fun x10=>(F32 1000 (rsC (-1) n c)).bind fun x11=>(F29 1000 x8.1 x9.1).bind fun x12=>(optG (!(cond (cond (!x12) true (x8.2.1 != x9.2.1)) true (x8.2.2 != x9.2.2))) (F29 1000 x10.1 x11.1)).bind fun x13=>if (cond (cond (cond (cond (!x12) true (x8.2.1 != x9.2.1)) true (x8.2.2 != x9.2.2)) true (!x13)) true (x10.2 != x11.2)) then (some (.inl false)) else (some (.inr ()))) else (some (.inr ())):Option (Bool⊕Unit))=R:=by
   intro R hR
   subst hR
   by_cases ha:(chk (rsC (-1) n c)).2.2=0
   ·have hw:=chk_val (chk_err ha)
    obtain ⟨r,r1,r2⟩:=e27 (k:=1000) (by omega) c
    obtain ⟨q,q1,q2⟩:=e27 (k:=1000) (by omega) (rsC (-1) n c)
    obtain ⟨s,s1,s2⟩:=e32 (k:=1000) (by omega) c
    obtain ⟨t,t1,t2⟩:=e32 (k:=1000) (by omega) (rsC (-1) n c)
    have e1:=(r2.same h ha rfl (rs_ag hv hw)).eq q2
    have hsw:WithoutOk (rsC (-1) n c) s:=by
     rcases s2 with ⟨b,_⟩|⟨_,b1,b2,b3,b4⟩
     ·exact absurd h b
     ·exact .inr ⟨ha,b1,by rw [rs_len];exact b2,(rs_feas hv hw _).2 b3,fun l hl hf=>b4 l (by rw [rs_len] at hl;exact hl) ((rs_feas hv hw _).1 hf)⟩
    have e2:=hsw.eq t2
    subst e1;subst e2
    have l1:=r2.len
    have l2:=s2.len
    rw [if_pos (by simpa using ha),r1,Option.bind_some,q1,Option.bind_some,s1,Option.bind_some,t1,Option.bind_some,e29 (by omega) (by omega),Option.bind_some]
    simp only [Bool.not_true,cond_false,bne_self_eq_false,Bool.not_false,optG_true]
    rw [e29 (by omega) (by omega),Option.bind_some]
    simp
   ·rw [if_neg (by simpa using ha)]
  rw [hall _ rfl,Option.bind_some]
  simp only [outK]
  rw [need_true (by omega),Option.bind_some,i64_id (n:=which.e0) (by omega) (by omega),i64_id (n:=which.e1) (by omega) (by omega)]
  generalize which.e0.tmod (c.Sheets.length:Int)=iz at i0 i1
  rw [e47 (by omega) hv _ _ hn,Option.bind_some,show (⟨(rsC iz n c).Tol,(rsC iz n c).Sheets,(rsC iz n c).Edges⟩:S_api_EdCase)=rsC iz n c from rfl,e36 (by omega),Option.bind_some]
  by_cases ha:(chk (rsC iz n c)).2.2=0∧c.Edges.length≠0
  ·obtain ⟨ha,hne⟩:=ha
   have hw:=chk_val (chk_err ha)
   obtain ⟨k0,k1⟩:=tmod_in (n:=which.e1) (m:=(c.Edges.length:Int)) h1.1 (by omega)
   rw [show ((chk (rsC iz n c)).2.2==0)=true by simpa using ha,show (((c.Edges.length:Nat):Int)==0)=false by simpa using hne,if_neg (by simp),need_true (by omega),Option.bind_some]
   generalize which.e1.tmod (c.Edges.length:Int)=kz at k0 k1
   obtain ⟨k,rfl⟩:∃k:Nat,kz=(k:Int):=⟨kz.toNat,by omega⟩
   have hkl:k<c.Edges.length:=by omega
   have hwb:=want_bound hv (mem_get hkl)
   have hacc:=rs_acc hv hw hkl
   rw [e18 (by omega) c _ (by omega),Option.bind_some,e18 (by omega) _ _ (by rw [rs_len];omega),Option.bind_some,wantsE_in h hkl,wantsE_in ha (by rw [rs_len];exact hkl)]
   have hset:∀d,(lo c k+rsS iz n c.Edges[k]! ≤ d∧d≤hi c k+rsS iz n c.Edges[k]!)↔(lo (rsC iz n c) k≤d∧d≤hi (rsC iz n c) k):=fun d=>by
    have:=hacc (d-rsS iz n c.Edges[k]!)
    rw [show d-rsS iz n c.Edges[k]! + rsS iz n c.Edges[k]! = d by omega] at this
    have h2:(lo (rsC iz n c) k≤d∧d≤hi (rsC iz n c) k)↔(lo c k≤d-rsS iz n c.Edges[k]! ∧ d-rsS iz n c.Edges[k]! ≤ hi c k):=this
    rw [h2]
    omega
   by_cases hle:lo c k≤hi c k
   ·have e:=itv_eq (by omega:lo c k+rsS iz n c.Edges[k]! ≤ hi c k+rsS iz n c.Edges[k]!) hset
    rw [e.1,e.2,if_pos hle,if_pos (show lo c k+rsS iz n c.Edges[k]! ≤ hi c k+rsS iz n c.Edges[k]! by omega)]
    rw [if_neg (by simp),idx_nat hkl,Option.bind_some]
    have hneg:¬iz<0:=by omega
    have hlb : -18000≤lo c k∧lo c k≤9000 ∧ -9000≤hi c k∧hi c k≤18000:=hwb
    have hrs:rsS iz n c.Edges[k]! = if c.Edges[k]!.B=iz then n else if c.Edges[k]!.A=iz then -n else 0:=if_neg hneg
    rw [w64_id (n:=0-n) (by omega) (by omega)]
    by_cases hA:c.Edges[k]!.A=iz
    ·rw [if_pos (by simpa using hA),Option.bind_some]
     simp only [outK,Option.bind_some]
     by_cases hB:c.Edges[k]!.B=iz
     ·rw [if_pos (by simpa using hB),hrs,if_pos hB,w64_id (n:=lo c k+n) (by omega) (by omega),w64_id (n:=hi c k+n) (by omega) (by omega)]
      simp only [F35,Option.bind_some,beq_self_eq_true,Bool.and_self,optG_true,awake]
      rfl
     ·rw [if_neg (by simpa using hB),hrs,if_neg hB,if_pos hA,show 0-n = -n by omega,w64_id (n:=lo c k + -n) (by omega) (by omega),w64_id (n:=hi c k + -n) (by omega) (by omega)]
      simp only [F35,Option.bind_some,beq_self_eq_true,Bool.and_self,optG_true,awake]
      rfl
    ·rw [if_neg (by simpa using hA),Option.bind_some]
     simp only [outK,Option.bind_some]
     by_cases hB:c.Edges[k]!.B=iz
     ·rw [if_pos (by simpa using hB),hrs,if_pos hB,w64_id (n:=lo c k+n) (by omega) (by omega),w64_id (n:=hi c k+n) (by omega) (by omega)]
      simp only [F35,Option.bind_some,beq_self_eq_true,Bool.and_self,optG_true,awake]
      rfl
     ·rw [if_neg (by simpa using hB),hrs,if_neg hB,if_neg hA,w64_id (n:=lo c k+0) (by omega) (by omega),w64_id (n:=hi c k+0) (by omega) (by omega)]
      simp only [F35,Option.bind_some,beq_self_eq_true,Bool.and_self,optG_true,awake]
      rfl
   ·have hne2:=itv_none (a:=lo c k+rsS iz n c.Edges[k]!) (b:=hi c k+rsS iz n c.Edges[k]!) (by omega) hset
    rw [if_neg hle,if_neg hne2]
    simp only [awake]
    rfl
  ·rw [if_pos (by
    by_cases hc:(chk (rsC iz n c)).2.2=0
    ·have:c.Edges.length=0:=Classical.byContradiction fun hh=>ha ⟨hc,hh⟩
     rw [this]
     cases (!((chk (rsC iz n c)).2.2==0))<;>rfl
    ·rw [show ((chk (rsC iz n c)).2.2==0)=false by simpa using hc];rfl),awake]
   rfl
 ·rw [show ((chk c).2.2==0)=false by simpa using h,if_pos (by rfl),awake]
  rfl
end Go.Proofs.Ytallnifoeahpiaa
