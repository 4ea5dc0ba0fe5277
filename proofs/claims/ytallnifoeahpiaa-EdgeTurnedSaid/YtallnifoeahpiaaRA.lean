/- Cases with which the same changes agree; edges whose heights are other ones. -/
import Derived.Test.YtallnifoeahpiaaP7
namespace Go.Proofs.Ytallnifoeahpiaa
open Go Go.Sx
set_option linter.all false
theorem RangeOk.same {c d:Cs} (h:(chk c).2.2=0) (hd:(chk d).2.2=0) (hn:d.Sheets.length=c.Sheets.length) (ha:∀x,Ag d x↔Ag c x) {i:Int} {r:S_api_Span×Int} (hr:RangeOk c i r):RangeOk d i r:=by
 rcases hr with ⟨h1,_⟩|⟨_,h2,h3⟩|⟨_,h2,h3,h4⟩|⟨_,h2,h3,⟨x,x1,x2⟩,⟨y,y1,y2⟩,h4⟩
 ·exact absurd h h1
 ·exact .inr (.inl ⟨hd,by rw [hn];exact h2,h3⟩)
 ·exact .inr (.inr (.inl ⟨hd,by rw [hn];exact h2,fun x hx=>h3 x ((ha x).1 hx),h4⟩))
 ·exact .inr (.inr (.inr ⟨hd,by rw [hn];exact h2,h3,⟨x,(ha x).2 x1,x2⟩,⟨y,(ha y).2 y1,y2⟩,fun z hz=>h4 z ((ha z).1 hz)⟩))
theorem LeastOk.same {c d:Cs} (h:(chk c).2.2=0) (hd:(chk d).2.2=0) (hn:d.Sheets=c.Sheets) (ha:∀x,Ag d x↔Ag c x) {r:List Int×Int×Int} (hr:LeastOk c r):LeastOk d r:=by
 have hcost:∀x,cost d x=cost c x:=fun x=>by unfold cost;rw [hn]
 have hle:∀x y,Le d x y↔Le c x y:=fun x y=>by unfold Le;rw [hn]
 rcases hr with ⟨h1,_⟩|⟨_,h2,h3⟩|⟨_,h2,h3,h4,h5⟩
 ·exact absurd h h1
 ·exact .inr (.inl ⟨hd,fun x hx=>h2 x ((ha x).1 hx),h3⟩)
 ·exact .inr (.inr ⟨hd,h2,by rw [hcost];exact h3,(ha _).2 h4,fun y hy=>by rw [hcost,hcost,hle];exact h5 y ((ha y).1 hy)⟩)

def acc (c:Cs) (x:Eg) (d:Int):Prop:=(want c x).1≤d∧d≤(want c x).2

theorem itv_eq {a b a' b':Int} (h:a≤b) (hs:∀d,(a≤d∧d≤b)↔(a'≤d∧d≤b')):a'=a∧b'=b:=by
 have h1:=(hs a).1 ⟨Int.le_refl _,h⟩
 have h2:=(hs b).1 ⟨h,Int.le_refl _⟩
 have h3:=(hs a').2 ⟨Int.le_refl _,by omega⟩
 have h4:=(hs b').2 ⟨by omega,Int.le_refl _⟩
 omega
theorem itv_none {a b a' b':Int} (h:¬a≤b) (hs:∀d,(a≤d∧d≤b)↔(a'≤d∧d≤b')):¬a'≤b':=fun h'=>by
 have:=(hs a').2 ⟨Int.le_refl _,h'⟩
 omega
theorem fe_acc {c:Cs} {x:List Int}:Fe c 0 x↔(∀i,i<c.Sheets.length → -c.Sheets[i]!.Most≤x[i]! ∧ x[i]! ≤ c.Sheets[i]!.Most)∧∀i,i<c.Edges.length→acc c c.Edges[i]! (x[c.Edges[i]!.A.toNat]! - x[c.Edges[i]!.B.toNat]!) :=
 ⟨fun h=>⟨h.box,fun i hi=>h.eg i hi (keep0 i)⟩,fun h=>⟨h.1,fun i hi _=>h.2 i hi⟩⟩
theorem map_get {α β:Type} [Inhabited α] [Inhabited β] {f:α→β} {l:List α} {i:Nat} (h:i<l.length):(l.map f)[i]! = f l[i]! := by
 rw [getElem!_pos _ i (by simpa using h),getElem!_pos l i h];simp


def rsP (s n a b:Int) (p:Pt):Pt:=⟨if s<0∨a=s then p.A+n else p.A,if s<0∨b=s then p.B+n else p.B⟩
def rsE (s n:Int) (x:Eg):Eg:=⟨x.A,x.B,x.Points.map (rsP s n x.A x.B)⟩
def rsC (s n:Int) (c:Cs):Cs:=⟨c.Tol,c.Sheets,c.Edges.map (rsE s n)⟩
theorem rs_get {s n:Int} {c:Cs} {i:Nat} (h:i<c.Edges.length):(rsC s n c).Edges[i]! = rsE s n c.Edges[i]! := map_get h
theorem rs_len {s n:Int} {c:Cs}:(rsC s n c).Edges.length=c.Edges.length:=by simp [rsC]

def rsS (s n:Int) (x:Eg):Int:=if s<0 then 0 else if x.B=s then n else if x.A=s then -n else 0
theorem rs_acc {s n:Int} {c:Cs} (hv:Val c) (hw:Val (rsC s n c)) {i:Nat} (hi:i<c.Edges.length) (d:Int):acc (rsC s n c) (rsC s n c).Edges[i]! (d+rsS s n c.Edges[i]!)↔acc c c.Edges[i]! d:=by
 have hne:=(hv.eg _ (mem_get hi)).2.2.2.2.1
 have h1:=want_iff hv (mem_get hi) d
 have h2:=want_iff hw (mem_get (l:=(rsC s n c).Edges) (by rw [rs_len];exact hi)) (d+rsS s n c.Edges[i]!)
 unfold acc
 rw [h1,h2,rs_get hi]
 have key:∀p:Pt,((rsP s n c.Edges[i]!.A c.Edges[i]!.B p).B-(rsP s n c.Edges[i]!.A c.Edges[i]!.B p).A)=p.B-p.A+rsS s n c.Edges[i]! := fun p=>by
  simp only [rsP,rsS]
  by_cases h0:s<0
  ·rw [if_pos (.inl h0),if_pos (.inl h0),if_pos h0];omega
  ·rw [if_neg h0]
   by_cases hB:c.Edges[i]!.B=s
   ·rw [if_pos (.inr hB),if_neg (by omega),if_pos hB];omega
   ·rw [if_neg (by omega),if_neg hB]
    by_cases hA:c.Edges[i]!.A=s
    ·rw [if_pos (.inr hA),if_pos hA];omega
    ·rw [if_neg (by omega),if_neg hA];omega
 constructor
 ·intro h p hp
  have:=h _ (List.mem_map_of_mem (f:=rsP s n c.Edges[i]!.A c.Edges[i]!.B) hp)
  rw [key] at this
  have ht:(rsC s n c).Tol=c.Tol:=rfl
  omega
 ·intro h q hq
  obtain ⟨p,hp,rfl⟩:=List.mem_map.1 hq
  have:=h p hp
  rw [key]
  have ht:(rsC s n c).Tol=c.Tol:=rfl
  omega

theorem rs_ag {n:Int} {c:Cs} (hv:Val c) (hw:Val (rsC (-1) n c)) (x:List Int):Ag (rsC (-1) n c) x↔Ag c x:=by
 unfold Ag
 rw [fe_acc,fe_acc,rs_len]
 have key:∀i,i<c.Edges.length→(acc (rsC (-1) n c) (rsC (-1) n c).Edges[i]! (x[(rsC (-1) n c).Edges[i]!.A.toNat]! - x[(rsC (-1) n c).Edges[i]!.B.toNat]!)↔acc c c.Edges[i]! (x[c.Edges[i]!.A.toNat]! - x[c.Edges[i]!.B.toNat]!)):=fun i hi=>by
  have:=rs_acc hv hw hi (x[c.Edges[i]!.A.toNat]! - x[c.Edges[i]!.B.toNat]!)
  have e:rsS (-1) n c.Edges[i]! = 0:=if_pos (by omega)
  rw [e,Int.add_zero] at this
  have e1:(rsC (-1) n c).Edges[i]!.A=c.Edges[i]!.A:=by rw [rs_get hi];rfl
  have e2:(rsC (-1) n c).Edges[i]!.B=c.Edges[i]!.B:=by rw [rs_get hi];rfl
  rw [e1,e2]
  exact this
 exact ⟨fun h=>⟨h.1,h.2.1,fun i hi=>(key i hi).1 (h.2.2 i hi)⟩,fun h=>⟨h.1,h.2.1,fun i hi=>(key i hi).2 (h.2.2 i hi)⟩⟩
end Go.Proofs.Ytallnifoeahpiaa
