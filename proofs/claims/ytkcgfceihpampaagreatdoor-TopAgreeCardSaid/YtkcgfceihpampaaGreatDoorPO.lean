/- The search for notes that contradict each other, with what fits told ahead. -/
import Derived.Test.YtkcgfceihpampaaGreatDoorPS
import Derived.Test.YtkcgfceihpampaaGreatDoorDQ
namespace Go.Proofs.YtkcgfceihpampaaGreatDoor
open Go Go.Sx
set_option linter.all false
set_option maxRecDepth 100000

abbrev Res:=Bool×List Int×List Int
def stepS (fit:List Nat→Bool) (left:Bool) (N:Nat) (rec:Int→List Nat→Bool→Bool→List Int→List Int→Option Res) (i:Int) (I:List Nat) (bad found:Bool) (a best:List Int):Option Res :=
 if (cond (cond found (decide ((a.length:Int)≥(best.length:Int))) false) true (cond left bad false)) then (some (found,a,best)) else (if (cond bad true (cond left (i==(N:Int)) false)) then ((F110 a).bind fun x3=>some (true,a,x3)) else (if (i==(N:Int)) then (some (found,a,best)) else ((need ((a.length+([i]:List Int).length)*8≤140737488355328∧a.length+([i]:List Int).length≤9223372036854775807)).bind fun x8=>(if left then ((rec (w64 (i+1)) I false found (a++([i]:List Int)) best).bind fun x12=>some (.inr (x12.1,x12.2.1,x12.2.2))) else ((rec (w64 (i+1)) (i.toNat::I) (!fit (i.toNat::I)) found (a++([i]:List Int)) best).bind fun x14=>some (.inr (x14.1,x14.2.1,x14.2.2)))).bind fun o9=>outK o9 (fun (ro9:Res)=>some ro9) (fun (so9:Res)=>(sub so9.2.1 0 (w64 ((so9.2.1.length:Int)-1))).bind fun x15=>if left then ((rec (w64 (i+1)) (i.toNat::I) (!fit (i.toNat::I)) so9.1 x15 so9.2.2).bind fun x18=>some (x18.1,x18.2.1,x18.2.2)) else ((rec (w64 (i+1)) I false so9.1 x15 so9.2.2).bind fun x20=>some (x20.1,x20.2.1,x20.2.2))))))
def searchS (fit:List Nat→Bool) (left:Bool) (N:Nat):Nat→Int→List Nat→Bool→Bool→List Int→List Int→Option Res
 | 0,_,_,_,_,_,_=>none
 | n+1,i,I,bad,found,a,best=>stepS fit left N (searchS fit left N n) i I bad found a best


def Rep (s:S_api_ShSheet) (I:List Nat) (b:List Int):Prop:=Cl b∧∀h,Sat h b↔Sat h freeL∧∀j∈I,Holds s.Interval s.Notes[j]! 0 h
def FitI (s:S_api_ShSheet) (I:List Nat):Prop:=∃h,Sat h freeL∧∀j∈I,Holds s.Interval s.Notes[j]! 0 h

theorem search_eq {s:S_api_ShSheet} (hv:Vn s) {fit:List Nat→Bool} (hfit:∀I,(∀j∈I,j<s.Notes.length)→(fit I=true↔FitI s I)) (left:Bool):∀(n i:Nat) (I:List Nat) (b:List Int) (bad found:Bool) (a best:List Int),
 b.length=81→(bad=true∨Rep s I b)→(∀j∈I,j<s.Notes.length)→i≤s.Notes.length→200≤n+i →
 F173v1 n i b bad found a best left s.Interval s.Points s.Notes=searchS fit left s.Notes.length n i I bad found a best:=by
 have hm:=hv.many;intro n;induction n with
 | zero=>intro i I b bad found a best _ _ _ hi hn;omega
 | succ n ih =>
  intro i I b bad found a best hb hr hI hi hn;rw [F173v1,searchS];unfold B173v1 stepS;split
  ·rfl
  ·rename_i c1;split
   ·rfl
   ·rename_i c2;split
    ·rfl
    ·rename_i c3
     have hbad:bad=false:=by
      cases bad with
      | false=>rfl
      | true=>simp at c2
     subst hbad
     have hlt:i<s.Notes.length:=by
      have:i≠s.Notes.length:=fun e=>c3 (by rw [e];simp);omega
     have hrep:Rep s I b:=by
      rcases hr with h|h
      ·simp at h
      ·exact h
     obtain ⟨⟨b',is⟩,hw,h1,h2,h3⟩:=with_ok (fuel:=n+1) (by omega) (s:=⟨s⟩) (w:=0) hlt (note_at hv hlt) hv.iv (by omega) hrep.1;simp only at h1 h2 h3;have hi1:w64 ((i:Int)+1)=((i+1:Nat):Int):=by rw [w64_id (by omega) (by omega)];simp
     have hI':∀j∈i::I,j<s.Notes.length:=fun j hj=>by
      rcases ZM.1 hj with rfl|hj
      ·exact hlt
      ·exact hI j hj
     have hmem:∀h,(Sat h freeL∧∀j∈i::I,Holds s.Interval s.Notes[j]! 0 h)↔Sat h b∧Holds s.Interval s.Notes[i]! 0 h:=fun h=>by
      rw [hrep.2 h];constructor
      ·rintro ⟨g1,g2⟩;exact ⟨⟨g1,fun j hj=>g2 j (Zz _ hj)⟩,g2 i (Yb ..)⟩
      ·rintro ⟨⟨g1,g2⟩,g3⟩;refine ⟨g1,fun j hj=>?_⟩;rcases ZM.1 hj with rfl|hj
       ·exact g3
       ·exact g2 j hj
     have his:fit (i::I)=is:=by
      cases is with
      | true =>
       obtain ⟨g1,g2⟩:=h2 rfl;exact (hfit _ hI').2 ⟨_,(hmem _).2 ((g2 _).1 (g1.top (j:=8) (by omega)))⟩
      | false =>
       cases hf:fit (i::I) with
       | false=>rfl
       | true =>
        obtain ⟨h,hh⟩:=(hfit _ hI').1 hf;have:=(hmem h).1 hh;exact absurd this.2 (h3 rfl h this.1)
     have hr':(!is)=true∨Rep s (i::I) b':=by
      cases is with
      | false=>exact .inl rfl
      | true =>
       obtain ⟨g1,g2⟩:=h2 rfl;exact .inr ⟨g1,fun h=>by rw [g2 h];exact (hmem h).symm⟩
     have ih1:=fun found a best=>ih (i+1) I b false found a best hb (.inr hrep) hI (by omega) (by omega);have ih2:=fun found a best=>ih (i+1) (i::I) b' (!is) found a best h1 hr' hI' (by omega) (by omega);rw [cutN_all hb,Za,show (⟨⟨s.Interval,s.Points,s.Notes⟩⟩:S_sheet_sheet)=⟨s⟩ from rfl,hw,Za];simp only [need_true h1,cutN_all h1,Za,hi1,ih1,ih2,Int.toNat_natCast,his]

theorem f115 {s:S_api_ShSheet} (hv:Vn s) {fit:List Nat→Bool} (hfit:∀I,(∀j∈I,j<s.Notes.length)→(fit I=true↔FitI s I)) (left:Bool):F115 200 ⟨s⟩ left=(searchS fit left s.Notes.length 200 0 [] false false [] []).bind fun x2=>some x2.2.2:=by
 unfold F115;rw [f69,Za];have:=search_eq hv hfit left 200 0 [] freeL false false [] [] free_len (.inr ⟨free_cl,fun h=>by simp⟩) (fun j h=>by simp at h) (by omega) (by omega);rw [show (0:Int)=((0:Nat):Int) from rfl,this]
end Go.Proofs.YtkcgfceihpampaaGreatDoor
