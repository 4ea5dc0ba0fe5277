/- The law of TopPainted, from what Awake answers. -/
import Derived.Test.YtkcgfceihpampaaGreatDoorPU
import Derived.Test.YtkcgfceihpampaaGreatDoorDZ
import Derived.Test.YtkcgfceihpampaaGreatDoorDH
namespace Go.Proofs.YtkcgfceihpampaaGreatDoor
open Go Go.Sx
set_option linter.all false
set_option maxRecDepth 100000

theorem f21 {m:Mp} (h:(chk m).2.2≠0):F21 200 m=some ([],0,(chk m).2.2):=by
 unfold F21
 rw [e17 (by omega),Option.bind_some,if_pos (by simpa using h)]
theorem told_ok {s t:S_api_ShSheet} {hl:List Int} (hs:ShOk s) (t1:t.Interval=s.Interval) (t2:t.Points=s.Points) (t3:t.Notes.length≤s.Notes.length) (t4:TlI s hl t.Notes):ShOk t :=
 ⟨by rw [t1];exact hs.iv,by rw [t2];exact hs.one,by rw [t2];exact hs.pts,by rw [t2];exact hs.nm,by have:=hs.many;omega,fun y hy=>by rw [t1,t2];exact (t4 y hy).1⟩

theorem told_heights {s t:S_api_ShSheet} {hl:List Int} (hs:ShOk s) (hlen:hl.length=s.Points.length) (hb:∀n∈hl,0≤n∧n≤9000) (t1:t.Interval=s.Interval) (t2:t.Points=s.Points) (t3:t.Notes.length≤s.Notes.length) (t4:TlI s hl t.Notes) :
 Ok (F10 200 t) (fun r=>r.2=0∧r.1.length=hl.length∧∀i,i<hl.length→r.1[i]!.Lo≤hl[i]! ∧ hl[i]! ≤ r.1[i]!.Hi):=by
 have ht:=told_ok hs t1 t2 t3 t4
 have hp:=hs.pts
 refine (heights_ok ht.vn ht.pts ht.f65).mono fun r hr=>?_
 have hfit:Sat (tr hl) freeL∧AllH t 0 (tr hl):=by
  refine ⟨sat_free.2 fun i hi=>?_,fun y hy=>by rw [t1];exact (t4 y hy).2⟩
  have h8:tr hl 8=0:=by unfold tr;rw [if_neg (by omega)]
  rw [h8]
  unfold tr
  split
  ·rename_i h
   have:=hb hl[i]! (by rw [getElem!_pos hl i h];exact List.getElem_mem _)
   omega
  ·omega
 rcases hr with ⟨z,b,hc,hsat,hl1⟩|⟨_,hn⟩
 ·have hb:=(hsat (tr hl)).2 hfit
  have e2:t.Points.length=hl.length:=by rw [t2,hlen]
  refine ⟨z,by rw [hl1];simp [e2],fun i hi=>?_⟩
  have e:r.1[i]! = ⟨-M b i 8,M b 8 i⟩:=by rw [getElem!_pos r.1 i (by rw [hl1];simp;omega)];simp [hl1]
  have h1:=hb i 8 (by omega) (by omega)
  have h2:=hb 8 i (by omega) (by omega)
  have h8:tr hl 8=0:=by unfold tr;rw [if_neg (by omega)]
  have hi':tr hl i=hl[i]! := by unfold tr;rw [if_pos hi]
  rw [e]
  simp only
  omega
 ·exact absurd ⟨_,hfit⟩ hn

theorem law4 (h7:F7 200=some true) (h17:F17 200=some true) (s:S_api_ShSheet) (m:Mp) (x:S_hachuretop_Painted) (hh:Tn x.Heights) (ho:Tn x.Off) (hg:Tn x.Legend):F4 200 s m x=some true:=by
 unfold F4
 obtain ⟨r1,e1,q1⟩:=f16 (s:=s)
 rw [e1,Option.bind_some]
 by_cases h:r1.2.2=0
 ·rw [if_neg (by simp [h])]
  have hs:=q1.1 h
  obtain ⟨hl,e2,hlen,hb⟩:=f18 hs.pts hh
  rw [e2,Option.bind_some]
  obtain ⟨t,e3,t1,t2,t3,t4⟩:=f19 hs hlen hb ho
  rw [e3,Option.bind_some,show (⟨t.Interval,t.Points,t.Notes⟩:S_api_ShSheet)=t from rfl]
  obtain ⟨l,e4,q4,l1,l2⟩:=told_heights hs hlen hb t1 t2 t3 t4
  have hp8:=hs.pts
  rw [e4,Option.bind_some,if_neg (by simp [q4,l1])]
  obtain ⟨m',hm'⟩:∃m',m'=(⟨m.Borders,m.Step,l.1,m.Sides,m.Inks,m.Like⟩:S_api_ClMap):=⟨_,rfl⟩
  have hH:m'.Heights=l.1:=by rw [hm']
  have hS:m.Sides=m'.Sides:=by rw [hm']
  rw [←hm',e18 (by omega),Option.bind_some]
  by_cases g:(chk m').2.2=0
  ·rw [if_neg (by simp [g])]
   have gm:=chk_good.1 g
   have hb1:=gm.b1
   have hs1:=gm.s1
   have hl1:=gm.l1
   obtain ⟨lg,e5,e6⟩:=e40 (k:=200) (by omega) gm hg
   rw [e5,Option.bind_some,e20 (by omega),Option.bind_some]
   by_cases h3:(chkLeg m' lg).2=0
   ·obtain ⟨_,gl⟩:=chkLeg_good.1 h3
    have hu:unsure m' lg=(doubt (alls m' lg) 0,0):=by unfold unsure;rw [if_pos h3]
    have ha:(alls m' lg).length=hl.length:=by simp [alls,hH,l1]
    rw [if_neg (by simp [h3]),e21 (by omega),Option.bind_some,e24 (by omega),Option.bind_some,hu,if_pos h3,if_neg (by simp [ha])]
    have k1:=any_loop (l:=hl) (L:=F4L1 200 hl lg (alls m' lg,0) (doubt (alls m' lg) 0,0)) (p:=fun _=>false) (r:=false) (by omega)
     (fun n c h=>by rw [F4L1,if_neg (by simpa using h)])
     (fun n c y hy h0 h1 hi=>by
      have hi0:=idx_bang h0 (by omega)
      rw [hi] at hi0
      have hyv:y=hl[c.toNat]! := Option.some.inj hi0
      have h2:=l2 c.toNat (by omega)
      rw [←hH,←hyv] at h2
      have q2:=band_mono lg h2.1
      have q3:=band_mono lg h2.2
      have hdl:=doubt_len (alls m' lg) 0
      rw [F4L1,if_pos (by simpa using h1)]
      dsimp only
      rw [hi,Option.bind_some,e83 (by omega) (by omega),Option.bind_some,idx_bang h0 (by omega),Option.bind_some,alls_at h0 (by rw [hH];omega)]
      unfold F27
      rw [f71,Option.bind_some,Option.bind_some,decide_eq_true (by simp only;omega)]
      simp only [Bool.not_true,Bool.not_false,optG_true,cond_false,Bool.true_and]
      rw [e46 (by omega) (by omega),Option.bind_some]
      cases hc:(doubt (alls m' lg) 0).contains c with
      | true=>simp only [Bool.not_true,optG_false,Option.bind_some,cond_false,Bool.false_eq_true,if_false]
      | false =>
       simp only [Bool.not_false,optG_true,Option.bind_some,cond_true]
       have h4:¬c∈doubt (alls m' lg) 0:=by simpa using hc
       have h5:¬(alls m' lg)[c.toNat]!.Lo<(alls m' lg)[c.toNat]!.Hi:=fun h6=>h4 ((mem_doubt _ _ _).2 ⟨c.toNat,by omega,by omega,h6⟩)
       rw [alls_at h0 (by rw [hH];omega)] at h5
       simp only at h5
       rw [show (((band lg y:Nat):Int) != ((band lg m'.Heights[c.toNat]!.Lo:Nat):Int))=false from by rw [bne_eq_false_iff_eq];omega]) hl [] 200 0 rfl rfl (by omega)
    have kf:∀y:List Int,(y.any fun _=>false)=false:=by intro y;rw [List.any_eq_false];simp
    rw [k1,kf,if_neg (by simp),Option.bind_some,outK_inr,e31 (by omega),Option.bind_some]
    rcases paintS_sound m' lg with hp|⟨hp,hbb,hlen2⟩
    ·have e7:paints m' lg=([],0,9):=by unfold paints;rw [if_pos h3,if_pos hp]
     rw [e7,if_pos (by rfl)]
     show (optG true (F7 200)).bind _=_
     rw [optG_true,h7,Option.bind_some]
     show (optG true (F17 200)).bind _=_
     rw [optG_true,h17];rfl
    ·have hne:paintS m' lg≠[]:=by intro h;rw [h] at hlen2;simp at hlen2
     have e7:paints m' lg=(paintS m' lg,(cnt (paintS m' lg):Int),0):=by unfold paints;rw [if_pos h3,if_neg hne]
     rw [e7]
     generalize paintS m' lg=z at hp hbb hlen2 hne
     rw [if_neg (by simp),w64_id (n:=(lg.length:Int)+1) (by omega) (by omega),if_neg (by simp;omega)]
     have k2:=any_loop (l:=m'.Sides) (L:=F4L2 200 m hl l lg (z,(cnt z:Int),0)) (p:=fun _=>false) (r:=false) (by omega)
      (fun n c h=>by rw [F4L2,if_neg (by rw [hS];simpa using h)])
      (fun n c d hd h0 h1 hi=>by
       have hsid:=gm.sid d hd
       rw [hH] at hsid
       have hA:=l2 d.A.toNat (by omega)
       have hB:=l2 d.B.toNat (by omega)
       rw [←hH] at hA hB
       have hmet:=side_bands gm gl hd hA hB
       have q1:=band_le lg hl[d.A.toNat]!
       have q2:=band_le lg hl[d.B.toNat]!
       rw [F4L2,if_pos (by rw [hS];simpa using h1),←hm',hS,hi]
       simp only [Option.bind_some]
       rw [idx_bang hsid.1.1 (by omega),Option.bind_some,e83 (by omega) (by omega),Option.bind_some,idx_bang hsid.2.1.1 (by omega),Option.bind_some,e83 (by omega) (by omega),Option.bind_some,idx_nat (by omega),Option.bind_some,idx_nat (by omega),Option.bind_some,e49 (by omega) (by omega),Option.bind_some,pnt_like hp hlen2 q1 q2 hmet,beq_self_eq_true,Bool.not_true]) m'.Sides [] 200 0 rfl rfl (by omega)
     have kf2:∀y:List Pr,(y.any fun _=>false)=false:=by intro y;rw [List.any_eq_false];simp
     rw [k2,kf2,if_neg (by simp),Option.bind_some,outK_inr,h7,Option.bind_some,optG_true,h17];rfl
   ·rw [if_pos (by simpa using h3),h7,Option.bind_some,optG_true,h17];rfl
  ·rw [if_pos (by simpa using g),f21 g,Option.bind_some]
   dsimp only
   rw [beq_self_eq_true,optG_true,h7,Option.bind_some]
   show (optG true (F17 200)).bind _=_
   rw [optG_true,h17];rfl
 ·rw [if_pos (by simpa using h),h7,Option.bind_some,optG_true,h17];rfl
end Go.Proofs.YtkcgfceihpampaaGreatDoor
