/- The calls of the sheet's Awake answer as they should. -/
import Derived.Test.YtkcgfceihpampaaGreatDoorPO
import Derived.Test.YtkcgfceihpampaaGreatDoorPS
import Derived.Test.YtkcgfceihpampaaGreatDoorDW
namespace Go.Proofs.YtkcgfceihpampaaGreatDoor
open Go Go.Sx
set_option linter.all false
set_option maxRecDepth 100000

def nS:List S_api_ShNote:=[⟨1,0,0,⟨1180,1200⟩⟩,⟨2,1,0,⟨9,10⟩⟩,⟨3,3,1,⟨0,0⟩⟩,⟨4,0,2,⟨250,300⟩⟩]
def pS:List ByteArray:=[⟨#[116,111,114]⟩,⟨#[109,101,114,101]⟩,⟨#[102,111,114,100]⟩,⟨#[100,97,109]⟩]
def sS:S_api_ShSheet:=⟨100,pS,nS⟩
def nT:List S_api_ShNote:=nS++[⟨4,1,2,⟨-40,-10⟩⟩]
def sT:S_api_ShSheet:=⟨100,pS,nT⟩
def nB:List S_api_ShNote:=nS++[⟨4,1,0,⟨0,10⟩⟩]
def sB:S_api_ShSheet:=⟨100,pS,nB⟩
instance (iv:Int) (x:S_api_ShNote) (w:Int) (h:Nat→Int):Decidable (Holds iv x w h):=by unfold Holds;infer_instance
instance (s:S_api_ShSheet) (w:Int) (h:Nat→Int):Decidable (AllH s w h):=by unfold AllH;infer_instance
def wit (l:List Int) (k:Nat):Int:=l.getD k 0
instance (iv:Int) (x:S_api_ShNote):Decidable (Nok iv x) :=
 decidable_of_iff ((x.Kind=1∨x.Kind=2∨x.Kind=3∨x.Kind=4)∧(0≤x.A∧x.A<8)∧(0≤x.B∧x.B<8)∧(-9000≤nlo iv x∧nlo iv x≤9000)∧(-9000≤nhi iv x∧nhi iv x≤9000)) ⟨fun ⟨a,b,c,d,e⟩=>⟨a,b,c,d,e⟩,fun ⟨a,b,c,d,e⟩=>⟨a,b,c,d,e⟩⟩
theorem wit_sat (l:List Int) (h:∀i,i<8→wit l 8≤wit l i∧wit l i≤wit l 8+9000):Sat (wit l) freeL:=sat_free.2 h

theorem vS:Vn sS:=⟨by decide,by decide,by decide⟩
theorem vB:Vn sB:=⟨by decide,by decide,by decide⟩
theorem cS:F65 200 sS=some (0,0,0):=by kernel_rfl
theorem cB:F65 200 sB=some (0,0,0):=by kernel_rfl
theorem fitS:Fit sS 0:=⟨wit [1180,900,930,900],wit_sat _ (by decide),by decide⟩
theorem badB {w:Int} (hw:w≤59):¬Fit sB w:=by
 rintro ⟨h,_,ha⟩;have h0:=ha ⟨1,0,0,⟨1180,1200⟩⟩ (by simp [sB,nB,nS]);have h1:=ha ⟨2,1,0,⟨9,10⟩⟩ (by simp [sB,nB,nS]);have h4:=ha ⟨4,1,0,⟨0,10⟩⟩ (by simp [sB,nB,nS]);simp [Holds,nlo,nhi,oth,sB] at h0 h1 h4;omega
theorem fitB:Fit sB 60:=⟨wit [1120,1060,930,1060],wit_sat _ (by decide),by decide⟩

def fitF (I:List Nat):Bool := !(I.contains 0&&I.contains 1&&I.contains 4)
theorem fitF_ok (I:List Nat) (hI:∀j∈I,j<sB.Notes.length):fitF I=true↔FitI sB I:=by
 have a0:∀j,j<5→j≠0→Holds 100 nB[j]! 0 (wit [900,900,650,900]):=by decide
 have a1:∀j,j<5→j≠1→Holds 100 nB[j]! 0 (wit [1180,1180,930,1180]):=by decide
 have a4:∀j,j<5→j≠4→Holds 100 nB[j]! 0 (wit [1180,900,930,900]):=by decide
 constructor
 ·intro h;by_cases h0:(0:Nat)∈I
  ·by_cases h1:(1:Nat)∈I
   ·by_cases h4:(4:Nat)∈I
    ·simp [fitF,h0,h1,h4] at h
    ·exact ⟨_,wit_sat _ (by decide),fun j hj=>a4 j (hI j hj) fun e=>h4 (e▸hj)⟩
   ·exact ⟨_,wit_sat _ (by decide),fun j hj=>a1 j (hI j hj) fun e=>h1 (e▸hj)⟩
  ·exact ⟨_,wit_sat _ (by decide),fun j hj=>a0 j (hI j hj) fun e=>h0 (e▸hj)⟩
 ·rintro ⟨h,_,ha⟩;by_cases hc:((0:Nat)∈I∧(1:Nat)∈I)∧(4:Nat)∈I
  ·have g0:=ha 0 hc.1.1;have g1:=ha 1 hc.1.2;have g4:=ha 4 hc.2;simp [Holds,nlo,nhi,oth,sB,nB,nS] at g0 g1 g4;omega
  ·rw [fitF,Bool.not_eq_true',Bool.eq_false_iff];intro e;simp only [Zh,List.contains_iff_mem] at e;exact hc e

theorem x12S:F12 200 sS=some (true,0):=by
 obtain ⟨⟨a,b⟩,h,h1,h2⟩:=fits_ok vS cS;rw [h,show a=true from h2.2 fitS,show b=0 from h1]
theorem x12B:F12 200 sB=some (false,0):=by
 obtain ⟨⟨a,b⟩,h,h1,h2⟩:=fits_ok vB cB
 have:a=false:=by
  cases a with
  | true=>exact absurd (h2.1 rfl) (badB (by omega))
  | false=>rfl
 rw [h,this,show b=0 from h1]
theorem x10B:F10 200 sB=some ([],9):=by
 obtain ⟨r,h,h1⟩:=heights_ok vB (by decide) cB;rcases h1 with ⟨_,b,h2,h3,_⟩|⟨rfl,_⟩
 ·exact absurd ⟨_,(h3 _).1 (h2.top (j:=8) (by omega))⟩ (badB (by omega))
 ·exact h
theorem x14B:F14 200 sB=some (60,0):=by
 obtain ⟨⟨v,e⟩,h,h1,h2,h3,h4,h5⟩:=wider_ok vB cB;simp only at h1 h2 h3 h4 h5
 have:v=60:=by
  rcases Int.lt_trichotomy v 60 with g|g|g
  ·rcases h4 with g'|g'
   ·omega
   ·exact absurd g' (badB (by omega))
  ·exact g
  ·exact absurd fitB (h5 60 (by omega) g)
 rw [h,this,h1]
theorem x42S:F42 200 sS=some ([],4):=by
 unfold F42;rw [x12S,Za];rfl
theorem x42B:F42 200 sB=some ([0,1,4],0):=by
 unfold F42;rw [x12B,Za,f115 vB fitF_ok]
 kernel_rfl
theorem x43B:F43 200 sB=some ([0],0):=by
 unfold F43;rw [cB,Za,f115 vB fitF_ok]
 kernel_rfl
theorem x10T:F10 200 sT=some ([⟨1180,1200⟩,⟨900,940⟩,⟨910,950⟩,⟨900,940⟩],0):=by kernel_rfl
theorem x40T:F40 200 sT 2 1=some (⟨10,40⟩,2,0):=by kernel_rfl
theorem x41S:F41 200 sS=some ([0],0):=by kernel_rfl
def tS:ByteArray:=⟨#[115,104,101,101,116,32,49,48,48,10,112,111,105,110,116,32,116,111,114,10,112,111,105,110,116,32,109,101,114,101,10,112,111,105,110,116,32,102,111,114,100,10,112,111,105,110,116,32,100,97,109,10,115,112,111,116,32,116,111,114,32,49,49,56,48,32,49,50,48,48,10,99,111,110,116,111,117,114,32,109,101,114,101,32,57,32,49,48,10,108,97,107,101,32,100,97,109,32,109,101,114,101,10,115,108,111,112,101,32,116,111,114,32,102,111,114,100,32,50,53,48,32,51,48,48,10]⟩
theorem x46:F46=some tS:=by kernel_rfl
theorem x44S:F44 200 sS=some (tS,0):=by kernel_rfl
theorem x45:F45v1 200 tS=some (sS,0):=by kernel_rfl
theorem x37S:F37v1 []=some sS:=by kernel_rfl
theorem x38:F38=some [⟨4,1,2,⟨-40,-10⟩⟩]:=by kernel_rfl
theorem x39:F39=some [⟨4,1,0,⟨0,10⟩⟩]:=by kernel_rfl
theorem x37T:F37 [⟨4,1,2,⟨-40,-10⟩⟩]=some sT:=by kernel_rfl
theorem x37B:F37 [⟨4,1,0,⟨0,10⟩⟩]=some sB:=by kernel_rfl
theorem awake7:F7 200=some true:=by
 unfold F7;rw [x37S,Za,x38,Za,x37T,Za,x39,Za,x37B,Za];rw [show (⟨sS.Interval,sS.Points,sS.Notes⟩:S_api_ShSheet)=sS from rfl,show (⟨sB.Interval,sB.Points,sB.Notes⟩:S_api_ShSheet)=sB from rfl,show (⟨sT.Interval,sT.Points,sT.Notes⟩:S_api_ShSheet)=sT from rfl];rw [x12S,Za,x12B,Za,x10T,Za,x40T,Za,x41S,Za,x42B,Za,x43B,Za,x14B,Za,x44S,Za,x46,Za,x45,Za,x10B,Za,x42S,Za]
 kernel_rfl
end Go.Proofs.YtkcgfceihpampaaGreatDoor
