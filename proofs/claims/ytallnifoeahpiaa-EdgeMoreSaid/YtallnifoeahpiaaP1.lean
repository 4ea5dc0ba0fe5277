/- Least: the changes that cost least, and of these the lowest. -/
import Derived.Test.YtallnifoeahpiaaPZ
namespace Go.Proofs.Ytallnifoeahpiaa
open Go Go.Sx
set_option linter.all false

theorem e103v1L1 {k:Nat} {c:Cs} (hk:40≤k) (hv:Val c) {x:List Int} (hx:P5 c x) (t:Int):∀(r:Nat) (s:Int) (g:Nat) (m:List (List Int×Int)),1≤s→s+r=sets c→r<g→KeptOk c m →
 (∃m',F103v1L1 k t c.Sheets c.Edges (wl c) x g (s,m,x,false)=some (.inr (m',x,false))∧KeptOk c m'∧∀S,s≤S→S<sets c→Fe c 0 (pl c.Sheets.length S x)→cost c (pl c.Sheets.length S x)≠cost c x) ∨
 (∃m' S,F103v1L1 k t c.Sheets c.Edges (wl c) x g (s,m,x,false)=some (.inl (false,m',pl c.Sheets.length S x,true))∧KeptOk c m'∧1≤S∧S<sets c∧Fe c 0 (pl c.Sheets.length S x)∧cost c (pl c.Sheets.length S x)=cost c x):=by
 have hs:=hv.sheets
 have hst:=sets_eq hv
 intro r
 induction r with
 | zero =>
  intro s g m h1 hr hg hm
  obtain ⟨g,rfl⟩:∃q,g=q+1:=⟨g-1,by omega⟩
  refine .inl ⟨m,?_,hm,fun S a1 a2=>by omega⟩
  rw [F103v1L1]
  dsimp only
  rw [need_true (by omega),Option.bind_some,hst.1,if_neg (by simp;omega)]
 | succ r ih =>
  intro s g m h1 hr hg hm
  obtain ⟨g,rfl⟩:∃q,g=q+1:=⟨g-1,by omega⟩
  rw [F103v1L1]
  dsimp only
  rw [need_true (by omega),Option.bind_some,hst.1,if_pos (by simp;omega),cutN5 hx.len,Option.bind_some,need_true hx.len,Option.bind_some,w64_id (n:=s+1) (by omega) (by omega)]
  have hlow:=lower_loop (β:=Bool×(List ((List Int)×Int))×(List Int)×Bool) hv (S:=s) hx.len (near_p5 hv hx) (L:=F103v1L2 c.Sheets (s,m,x,false)) (fun n c9=>by rw [F103v1L2]) c.Sheets.length 0 k (by omega) (by omega)
  rw [pl_zero hx.len] at hlow
  have hgo:∀m',KeptOk c m'→¬(Fe c 0 (pl c.Sheets.length s x)∧cost c (pl c.Sheets.length s x)=cost c x) →
   (∃m'',F103v1L1 k t c.Sheets c.Edges (wl c) x g (s+1,m',x,false)=some (.inr (m'',x,false))∧KeptOk c m''∧∀S,s≤S→S<sets c→Fe c 0 (pl c.Sheets.length S x)→cost c (pl c.Sheets.length S x)≠cost c x) ∨
   (∃m'' S,F103v1L1 k t c.Sheets c.Edges (wl c) x g (s+1,m',x,false)=some (.inl (false,m'',pl c.Sheets.length S x,true))∧KeptOk c m''∧1≤S∧S<sets c∧Fe c 0 (pl c.Sheets.length S x)∧cost c (pl c.Sheets.length S x)=cost c x):=by
   intro m' hm' hno
   rcases ih (s+1) g m' (by omega) (by omega) (by omega) hm' with ⟨m'',a1,a2,a3⟩|h
   ·refine .inl ⟨m'',a1,a2,fun S b1 b2 b3 b4=>?_⟩
    by_cases e:S=s
    ·subst e;exact hno ⟨b3,b4⟩
    ·exact a3 S (by omega) b2 b3 b4
   ·exact .inr h
  rcases hlow with ⟨hcan,hlow⟩|⟨hcan,y,hlow⟩
  ·have hlow':F103v1L2 c.Sheets (s,m,x,false) k (0,x)=_:=hlow
   rw [hlow',Option.bind_some]
   simp only [outK]
   have hnp:=near_pl hv (S:=s) hx
   rw [cutN5 pl_len,Option.bind_some,e60 (by omega) hv pl_len hnp,Option.bind_some]
   by_cases ho:oddF c (pl c.Sheets.length s x)<0
   ·have hfe:=(pl_fe hv hx).2 ⟨hcan,ho⟩
    have ht:decide (oddF c (pl c.Sheets.length s x)<0)=true:=decide_eq_true ho
    rw [ht]
    simp only [optG_true,cond_true]
    rw [Option.bind_some]
    obtain ⟨m1,e1,e2⟩:=e63 (k:=k) (by omega) hv pl_len hnp t hm
    obtain ⟨m2,e3,e4⟩:=e63 (k:=k) (by omega) hv hx.len (near_p5 hv hx) t e2
    have hr66:F66r k (pl c.Sheets.length s x) t c.Sheets c.Edges (wl c) m x false=some (if cost c (pl c.Sheets.length s x)=cost c x then (false,m2,pl c.Sheets.length s x,true) else (true,m2,x,false)):=by
     unfold F66r
     rw [need_true pl_len,Option.bind_some,cutN5 pl_len,Option.bind_some,e1,Option.bind_some,cutN5 hx.len,Option.bind_some]
     dsimp only
     rw [e3,Option.bind_some]
     dsimp only
     by_cases hq:cost c (pl c.Sheets.length s x)=cost c x
     ·rw [if_pos (by simp [hq]),if_pos hq,Option.bind_some,need_true pl_len,Option.bind_some,need_true hx.len,Option.bind_some]
     ·rw [if_neg (by simp [hq]),if_neg hq]
    rw [hr66,Option.bind_some]
    by_cases hq:cost c (pl c.Sheets.length s x)=cost c x
    ·rw [if_pos hq]
     simp only [Bool.not_false,if_true]
     exact .inr ⟨m2,s,rfl,e4,h1,by omega,hfe,hq⟩
    ·rw [if_neg hq]
     simp only [Bool.not_true,Bool.false_eq_true,if_false]
     exact hgo m2 e4 fun h=>hq h.2
   ·have ht:decide (oddF c (pl c.Sheets.length s x)<0)=false:=decide_eq_false ho
    rw [ht]
    simp only [optG_false,cond_false]
    rw [Option.bind_some,Option.bind_some,if_neg (by simp)]
    exact hgo m hm fun h=>ho ((pl_fe hv hx).1 h.1).2
  ·have hlow':F103v1L2 c.Sheets (s,m,x,false) k (0,x)=_:=hlow
   rw [hlow',Option.bind_some]
   simp only [outK]
   exact hgo m hm fun h=>hcan ((pl_fe hv hx).1 h.1).1


theorem set_some {n:Nat} (h1:1≤n) (h5:n≤5) {S:Int} (a:1≤S) (b:S<2^n):∃i,i<n∧keep S i=false:=by
 have key:∀n:Fin 6,∀S:Fin 32,1≤S.val→S.val<2^n.val→∃i:Fin 5,i.val<n.val∧keep (S.val:Int) i.val=false:=by decide +kernel
 have hS:S.toNat<32∧S.toNat<2^n:=by
  have:n=1∨n=2∨n=3∨n=4∨n=5:=by omega
  rcases this with h|h|h|h|h<;>subst h<;>omega
 obtain ⟨i,hi,hk⟩:=key ⟨n,by omega⟩ ⟨S.toNat,hS.1⟩ (by simp only;omega) hS.2
 refine ⟨i.val,hi,?_⟩
 simp only at hk
 rw [show ((S.toNat:Nat):Int)=S by omega] at hk
 exact hk
theorem pl_ne {c:Cs} (hv:Val c) {S:Int} (h:1≤S∧S<sets c) {x:List Int}:pl c.Sheets.length S x≠x:=by
 have hs:=hv.sheets
 obtain ⟨i,hi,hk⟩:=set_some hs.1 hs.2 h.1 h.2
 intro e
 have h1:(pl c.Sheets.length S x)[i]! = x[i]! := by rw [e]
 rw [pl_get (by omega),if_pos ⟨hi,hk⟩] at h1
 omega
theorem e66L1 {k:Nat} {c:Cs} (hk:40≤k) (hv:Val c) (t:Int):∀(r g:Nat) (m:List (List Int×Int)) (x y:List Int),(sum5 c x+30).toNat≤r→r<g→KeptOk c m→P5 c x→BestI c x (sets c) y→(∃z,Opt c z∧Le c z x) →
 ∃m' x',F66L1 k t c.Sheets c.Edges (wl c) g (m,x,y)=some (.inr (m',x',x'))∧KeptOk c m'∧Opt c x':=by
 have hfin:∀x,P5 c x→BestI c x (sets c) x→(∃z,Opt c z∧Le c z x)→Opt c x:=by
  rintro x hx hb ⟨z,hz,hle⟩
  refine ⟨hx,fun y hy=>?_⟩
  have h1:=no_less hv hx hb.all _ z hz.1 hle rfl
  have h2:=hz.2 y hy
  omega
 intro r
 induction r with
 | zero =>
  intro g m x y hr hg hm hx hb hz
  obtain ⟨g,rfl⟩:∃q,g=q+1:=⟨g-1,by omega⟩
  have he:y=x:=by
   rcases hb.frm with h|⟨S,s1,s2,s3,s4,s5⟩
   ·exact h
   ·exfalso
    have h1:=sum_pl hv ⟨s1,s2⟩ (pl_ne hv ⟨s1,s2⟩) hx
    have h2:=sum_bound hv (pl_p5 hv hx s3)
    omega
  subst he
  refine ⟨m,y,?_,hm,hfin y hx hb hz⟩
  rw [F66L1]
  dsimp only
  rw [cutN5 hx.len,Option.bind_some,Option.bind_some,need_true hx.len,Option.bind_some,Option.bind_some,if_neg (by simp)]
 | succ r ih =>
  intro g m x y hr hg hm hx hb hz
  obtain ⟨g,rfl⟩:∃q,g=q+1:=⟨g-1,by omega⟩
  rw [F66L1]
  dsimp only
  rw [cutN5 hx.len,cutN5 hb.len,Option.bind_some,Option.bind_some,need_true hx.len,need_true hb.len,Option.bind_some,Option.bind_some]
  by_cases he:y=x
  ·subst he
   rw [if_neg (by simp)]
   exact ⟨m,y,rfl,hm,hfin y hx hb hz⟩
  ·rw [if_pos (by simpa using he)]
   simp only [Option.bind_some,need_true hx.len,need_true hb.len,cutN5 hb.len]
   obtain ⟨z,hz1,hz2⟩:=hz
   have hkp:=best_keeps hv hx hz1 hz2 hb
   obtain ⟨b,m2,h1,h2,h3⟩:=e88 hk hv hkp.1 t hm
   rw [show F89 y t c.Sheets c.Edges (wl c) m=some y from rfl,Option.bind_some,h1,Option.bind_some,need_true h3.len,Option.bind_some]
   refine ih g m2 y b ?_ (by omega) h2 hkp.1 h3 hkp.2
   have hlt:sum5 c y<sum5 c x:=by
    rcases hb.frm with h|⟨S,s1,s2,s3,s4,s5⟩
    ·exact absurd h he
    ·rw [s4];exact sum_pl hv ⟨s1,s2⟩ (pl_ne hv ⟨s1,s2⟩) hx
   have:=sum_bound hv hkp.1
   omega
theorem e66L2 {k:Nat} {c:Cs} (hk:40≤k) (hv:Val c) (t:Int):∀(r g:Nat) (m:List (List Int×Int)) (x:List Int),(sum5 c x+30).toNat≤r→r+1<g→KeptOk c m→Opt c x →
 ∃m' x',F66L2 k t c.Sheets c.Edges (wl c) g (m,x,true)=some (.inr (m',x',false))∧KeptOk c m'∧Opt c x'∧∀S,1≤S→S<sets c→Fe c 0 (pl c.Sheets.length S x')→cost c (pl c.Sheets.length S x')≠cost c x':=by
 intro r
 induction r with
 | zero =>
  intro g m x hr hg hm hx
  obtain ⟨g,rfl⟩:∃q,g=q+2:=⟨g-2,by omega⟩
  have hst:=sets_eq hv
  rw [F66L2]
  dsimp only
  rw [if_pos rfl,cutN5 hx.1.len,Option.bind_some,show F89 x t c.Sheets c.Edges (wl c) m=some x from rfl,Option.bind_some]
  unfold F103v1
  rcases e103v1L1 hk hv hx.1 t (sets c-1).toNat 1 k m (by omega) (by omega) (by omega) hm with ⟨m',a1,a2,a3⟩|⟨m',S,a1,a2,a3,a4,a5,a6⟩
  ·rw [a1,Option.bind_some]
   simp only [outK]
   rw [Option.bind_some]
   simp only [if_true]
   refine ⟨m',x,?_,a2,hx,a3⟩
   rw [F66L2]
   dsimp only
   rw [if_neg (by simp)]
  ·exfalso
   have h1:=sum_pl hv ⟨a3,a4⟩ (pl_ne hv ⟨a3,a4⟩) hx.1
   have h2:=sum_bound hv (pl_p5 hv hx.1 a5)
   omega
 | succ r ih =>
  intro g m x hr hg hm hx
  obtain ⟨g,rfl⟩:∃q,g=q+2:=⟨g-2,by omega⟩
  have hst:=sets_eq hv
  rw [F66L2]
  dsimp only
  rw [if_pos rfl,cutN5 hx.1.len,Option.bind_some,show F89 x t c.Sheets c.Edges (wl c) m=some x from rfl,Option.bind_some]
  unfold F103v1
  rcases e103v1L1 hk hv hx.1 t (sets c-1).toNat 1 k m (by omega) (by omega) (by omega) hm with ⟨m',a1,a2,a3⟩|⟨m',S,a1,a2,a3,a4,a5,a6⟩
  ·rw [a1,Option.bind_some]
   simp only [outK]
   rw [Option.bind_some]
   simp only [if_true]
   refine ⟨m',x,?_,a2,hx,a3⟩
   rw [F66L2]
   dsimp only
   rw [if_neg (by simp)]
  ·rw [a1,Option.bind_some]
   simp only [outK]
   rw [Option.bind_some]
   simp only [Bool.false_eq_true,if_false]
   have h1:=sum_pl hv ⟨a3,a4⟩ (pl_ne hv ⟨a3,a4⟩) hx.1
   have hp:=pl_p5 hv hx.1 a5
   have h2:=sum_bound hv hp
   exact ih (g+1) m' (pl c.Sheets.length S x) (by omega) (by omega) a2 ⟨hp,fun y hy=>by rw [a6];exact hx.2 y hy⟩

theorem opt_some {c:Cs} (hv:Val c):∀(m:Nat) (x:List Int),P5 c x→(cost c x).toNat=m→∃z,Opt c z:=by
 intro m
 induction m using Nat.strongRecOn with
 | _ m ih =>
  intro x hx hm
  by_cases h:∃y,P5 c y∧cost c y<cost c x
  ·obtain ⟨y,h1,h2⟩:=h
   have hs:=hv.sheets
   have h0:0≤cost c y:=(sumN_bound (b:=20000) (by omega) fun i hi=>by
    have a:=most_ok hv hi
    exact mul_near ⟨a.2.2.1,a.2.2.2⟩ (absI_near (near_p5 hv h1 i hi))).1
   exact ih _ (by omega) y h1 rfl
  ·exact ⟨x,hx,fun y hy=>Int.not_lt.1 fun hlt=>h ⟨y,hy,hlt⟩⟩
theorem ag_p5 {c:Cs} (hv:Val c) {x:List Int} (h:Ag c x):P5 c (pad x):=by
 have hs:=hv.sheets
 have hl:=h.1
 refine ⟨pad_len (by omega),fe_congr hv (fun i hi=>(pad_get (by omega)).symm) h.2,fun i hi=>?_⟩
 by_cases h5:i<5
 ·unfold pad
  rw [getElem!_pos _ i (by simp;omega),List.getElem_append_right (by omega),List.getElem_replicate]
 ·exact get_end (by rw [pad_len (by omega)];omega)
theorem p5_ag {c:Cs} (hv:Val c) {x:List Int} (h:P5 c x):Ag c (x.take c.Sheets.length):=by
 have hs:=hv.sheets
 have hl:=h.len
 exact ⟨by simp;omega,fe_congr hv (fun i hi=>(take_get hi (by omega)).symm) h.fe⟩

theorem e66 {k:Nat} {c:Cs} (hk:100≤k) (hv:Val c) (t:Int) :
 ((∀x,¬Ag c x)∧F66 k t c.Sheets c.Edges (wl c) []=some (List.replicate 5 0,false,[])) ∨
 (∃x m,F66 k t c.Sheets c.Edges (wl c) []=some (x,true,m)∧KeptOk c m∧Opt c x∧∀y,Opt c y→Le c x y):=by
 have hs:=hv.sheets
 have h5:(List.replicate 5 (0:Int)).length=5:=by simp
 unfold F66
 rcases tight (k:=k) (by omega) hv 0 c.Sheets.length (Nat.le_refl _) t [] with ⟨d,h1,h2,h3,h4,h6⟩|⟨rl,b,h1,h2,_,h3⟩
 ·right
  rw [h1,Option.bind_some]
  simp only
  rw [if_neg (by simp),need_true h5,Option.bind_some,sub_take (by omega) (by omega),Option.bind_some]
  have hx0:(List.take (List.replicate 5 (0:Int)).length (List.take ((c.Sheets.length:Int)).toNat d)++List.drop (List.take ((c.Sheets.length:Int)).toNat d).length (List.replicate 5 (0:Int)):List Int)=pad (d.take c.Sheets.length):=by
   unfold pad
   rw [h5,Int.toNat_natCast,List.take_of_length_le (l:=d.take c.Sheets.length) (by simp;omega),List.drop_replicate]
  rw [hx0]
  have hdl:(d.take c.Sheets.length).length=c.Sheets.length:=by simp;omega
  have hag:Ag c (d.take c.Sheets.length):=⟨hdl,fe_congr hv (fun i hi=>by
   rw [chOf_get hi,take_get hi (by omega)]
   simp only [pf,Int.toNat_natCast]
   omega) h4⟩
  have hx:=ag_p5 hv hag
  have htop:∀z,P5 c z→Le c z (pad (d.take c.Sheets.length)):=fun z hz i hi=>by
   have:=h6 z hz.fe (hz.end_ _ (Nat.le_refl _)) i (by omega)
   rw [pad_get (by omega),take_get hi (by omega)]
   rw [hz.end_ _ (Nat.le_refl _)] at this
   omega
  obtain ⟨z,hz⟩:=opt_some hv _ _ hx rfl
  obtain ⟨b,m1,a1,a2,a3⟩:=e88 (k:=k) (by omega) hv hx t (m:=[]) (fun q hq=>by simp at hq)
  rw [cutN5 hx.len,Option.bind_some,Option.bind_some,show F89 (pad (d.take c.Sheets.length)) t c.Sheets c.Edges (wl c) []=some (pad (d.take c.Sheets.length)) from rfl,Option.bind_some,a1,Option.bind_some]
  dsimp only
  rw [need_true a3.len,Option.bind_some]
  have hsb:=sum_bound hv hx
  obtain ⟨m2,x2,b1,b2,b3⟩:=e66L1 (k:=k) (by omega) hv t 60 k m1 _ b (by omega) (by omega) a2 hx a3 ⟨z,hz,htop z hz.1⟩
  rw [b1,Option.bind_some]
  simp only [outK]
  have hsb2:=sum_bound hv b3.1
  obtain ⟨m3,x3,c1,c2,c3,c4⟩:=e66L2 (k:=k) (by omega) hv t 60 k m2 x2 (by omega) (by omega) b2 b3
  rw [c1,Option.bind_some]
  simp only
  rw [cutN5 c3.1.len,Option.bind_some,need_true c3.1.len]
  exact ⟨x3,m3,rfl,c2,c3,fun y hy=>lowest hv c3 c4 hy⟩
 ·left
  refine ⟨fun x hx=>h3 x ⟨hx.2,get_end (by rw [hx.1];exact Nat.le_refl _)⟩,?_⟩
  rw [h1,Option.bind_some]
  simp only
  have hne:rl.length≠0:=by have:=h2.pos;omega
  rw [if_pos (nbeq_pos hne),cutN5 h5,Option.bind_some,need_true h5,Option.bind_some,Option.bind_some]


def LeastOk (c:Cs) (r:List Int×Int×Int):Prop :=
 ((chk c).2.2≠0∧r=([],0,(chk c).2.2)) ∨
 ((chk c).2.2=0∧(∀x,¬Ag c x)∧r=([],0,9)) ∨
 ((chk c).2.2=0∧r.2.2=0∧r.2.1=cost c r.1∧Ag c r.1∧∀y,Ag c y→cost c r.1≤cost c y∧(cost c y=cost c r.1→Le c r.1 y))
theorem LeastOk.eq {c:Cs} {r q:List Int×Int×Int} (h:LeastOk c r) (g:LeastOk c q):r=q:=by
 rcases h with ⟨h1,h2⟩|⟨h1,h2,h3⟩|⟨h1,h2,h3,h4,h5⟩<;>rcases g with ⟨g1,g2⟩|⟨g1,g2,g3⟩|⟨g1,g2,g3,g4,g5⟩<;>first|exact absurd h1 g1|exact absurd g1 h1|exact absurd h4 (g2 _)|exact absurd g4 (h2 _)|skip
 ·rw [h2,g2]
 ·rw [h3,g3]
 ·have a1:=h5 _ g4
  have a2:=g5 _ h4
  have hc:cost c r.1=cost c q.1:=by omega
  have e:r.1=q.1:=by
   apply List.ext_getElem (by rw [h4.1,g4.1])
   intro i h7 h8
   have b1:=a1.2 (by omega) i (by rw [←h4.1];exact h7)
   have b2:=a2.2 (by omega) i (by rw [←h4.1];exact h7)
   rw [getElem!_pos r.1 i h7,getElem!_pos q.1 i h8] at b1 b2
   omega
  obtain ⟨rl,rc,re⟩:=r
  obtain ⟨ql,qc,qe⟩:=q
  simp only at *
  subst e
  rw [h2,g2,h3,g3]
theorem LeastOk.len {c:Cs} {r:List Int×Int×Int} (h:LeastOk c r):r.1.length≤5:=by
 rcases h with ⟨_,h⟩|⟨_,_,h⟩|⟨h,_,_,h2,_⟩
 ·rw [h];simp
 ·rw [h];simp
 ·rw [h2.1];exact (chk_val (chk_err h)).sheets.2
theorem e27 {k:Nat} (hk:100≤k) (c:Cs):∃r,F27 k c=some r∧LeastOk c r:=by
 unfold F27
 by_cases h:(chk c).2.2=0
 ·have hv:=chk_val (chk_err h)
  have hs:=hv.sheets
  rw [e57 (by omega) h,Option.bind_some]
  simp only [outK]
  rw [if_neg (by simp)]
  rcases e66 hk hv c.Tol with ⟨h1,h2⟩|⟨x,m,h1,h2,h3,h4⟩
  ·rw [h2,Option.bind_some]
   simp only
   rw [need_true (by simp),if_pos (by rfl)]
   exact ⟨_,rfl,.inr (.inl ⟨h,h1,rfl⟩)⟩
  ·have hxl:=h3.1.len
   obtain ⟨m2,e1,e2⟩:=e63 (k:=k) (by omega) hv hxl (near_p5 hv h3.1) c.Tol h2
   rw [h1,Option.bind_some]
   simp only
   have hag:=p5_ag hv h3.1
   rw [need_true hxl,Option.bind_some,if_neg (by simp),sub_take (by omega) (by omega),Option.bind_some,Option.bind_some,Int.toNat_natCast]
   unfold F67
   rw [need_true (by rw [hag.1];omega),Option.bind_some,need_true (by simp only [List.length_nil,hag.1];omega),Option.bind_some,Option.bind_some,cutN5 hxl,Option.bind_some,e1,Option.bind_some,List.nil_append]
   have hget:∀i,i<c.Sheets.length→(x.take c.Sheets.length)[i]! = x[i]! := fun i hi=>take_get hi (by omega)
   have hcx:cost c (x.take c.Sheets.length)=cost c x:=cost_congr hget
   refine ⟨_,rfl,.inr (.inr ⟨h,rfl,hcx.symm,hag,fun y hy=>?_⟩)⟩
   have hp:=ag_p5 hv hy
   have hcy:cost c (pad y)=cost c y:=cost_pad hy.1
   have h5:=h3.2 _ hp
   simp only
   rw [hcx,←hcy]
   refine ⟨h5,fun hq i hi=>?_⟩
   have:=h4 (pad y) ⟨hp,fun z hz=>by rw [hq];exact h3.2 z hz⟩ i hi
   rw [pad_get (by have:=hy.1;omega)] at this
   rw [hget i hi]
   exact this
 ·rw [e57_err (by omega) h,Option.bind_some]
  simp only [outK]
  rw [if_pos (by simpa using h)]
  exact ⟨_,rfl,.inl ⟨h,rfl⟩⟩
end Go.Proofs.Ytallnifoeahpiaa
