/- A row as a sheet. -/
import Derived.Test.YtkcgfceihpampaaGreatDoorPS
import Derived.Test.YtkcgfceihpampaaGreatDoorPC
import Derived.Test.YtkcgfceihpampaaGreatDoorDY
import Derived.Test.YtkcgfceihpampaaGreatDoorDZ
namespace Go.Proofs.YtkcgfceihpampaaGreatDoor
open Go Go.Sx
set_option linter.all false
set_option maxRecDepth 100000

def namesL:List ByteArray:=[⟨#[97]⟩,⟨#[98]⟩,⟨#[99]⟩,⟨#[100]⟩,⟨#[101]⟩,⟨#[102]⟩]
def rowN (r:R) (i:Nat):List S_api_ShNote:=⟨1,i,0,⟨r.Points[i]!.Lo,r.Points[i]!.Hi⟩⟩::(if 0<i then [⟨4,i,(i:Int)-1,⟨-r.Steep,r.Steep⟩⟩] else [])
def rowS (r:R):S_api_ShSheet:=⟨1,namesL.take r.Points.length,(List.range r.Points.length).flatMap (rowN r)⟩
theorem rowN_len (r:R) (i:Nat):(rowN r i).length≤2:=by unfold rowN;split<;>simp
theorem rows_len (r:R) (n:Nat):((List.range n).flatMap (rowN r)).length≤2*n:=by
 induction n with
 | zero=>simp
 | succ n ih =>
  rw [List.range_succ,List.flatMap_append,List.length_append]
  have:=rowN_len r n
  simp only [List.flatMap_cons,List.flatMap_nil,List.append_nil]
  omega
theorem rows_succ (r:R) (i:Nat):(List.range (i+1)).flatMap (rowN r)=(List.range i).flatMap (rowN r)++rowN r i:=by
 rw [List.range_succ,List.flatMap_append];simp
theorem names_succ {i:Nat} (h:i<6):namesL.take (i+1)=namesL.take i++[namesL[i]!]:=by
 rw [List.take_succ,List.getElem?_eq_getElem (show i<namesL.length from h),getElem!_pos namesL i h];rfl

theorem e9 {r:R} (hg:Good r) (h6:r.Points.length≤6):F9 200 r=some (rowS r):=by
 have hs0:=hg.s0
 have hs1:=hg.s1
 have key:=ok_loop (f:=F9L1 r) (fun c=>∃i:Nat,c.1=i∧i≤r.Points.length∧c.2.1=namesL.take i∧c.2.2=(List.range i).flatMap (rowN r)) (fun c=>r.Points.length-c.1.toNat) (fun o=>o = .inr (namesL.take r.Points.length,(List.range r.Points.length).flatMap (rowN r))) (by
  rintro n ⟨c,l1,l2⟩ ⟨i,hi,hil,e1,e2⟩ ih
  simp only at hi e1 e2
  subst hi;subst e1;subst e2
  rw [F9L1]
  simp only
  have hl:=rows_len r i
  by_cases hlt:i<r.Points.length
  ·rw [if_pos (by simp;omega)]
   rw [show ([(⟨#[97]⟩:ByteArray),(⟨#[98]⟩:ByteArray),(⟨#[99]⟩:ByteArray),(⟨#[100]⟩:ByteArray),(⟨#[101]⟩:ByteArray),(⟨#[102]⟩:ByteArray)]:List ByteArray)=namesL from rfl,idx_nat (show i<namesL.length from (by show i<6;omega)),Option.bind_some]
   rw [need_true (by simp;omega),Option.bind_some,idx_nat hlt,Option.bind_some,Option.bind_some,need_true (by simp only [List.length_singleton];omega),Option.bind_some]
   by_cases h0:0<i
   ·rw [if_pos (by simp;omega),need_true (by simp only [List.length_append,List.length_singleton];omega),Option.bind_some]
    rw [w64_id (n:=0-r.Steep) (by omega) (by omega),w64_id (n:=(i:Int)-1) (by omega) (by omega),w64_id (n:=(i:Int)+1) (by omega) (by omega)]
    refine ih _ ⟨i+1,by simp,by omega,(names_succ (by omega)).symm,?_⟩ (by first|omega|(simp;omega))
    rw [rows_succ,rowN,if_pos h0]
    simp
   ·rw [if_neg (by simp;omega),w64_id (n:=(i:Int)+1) (by omega) (by omega)]
    refine ih _ ⟨i+1,by simp,by omega,(names_succ (by omega)).symm,?_⟩ (by first|omega|(simp;omega))
    rw [rows_succ,rowN,if_neg h0]
  ·rw [if_neg (by simp;omega),ok_some]
   have:i=r.Points.length:=by omega
   subst this;rfl) 200 (0,[],[]) ⟨0,rfl,by omega,rfl,rfl⟩ (by first|omega|(simp;omega))
 obtain ⟨o,h1,rfl⟩:=key
 unfold F9
 rw [h1,Option.bind_some,outK_inr]
 rfl

theorem row_pts {r:R} (h6:r.Points.length≤6):(rowS r).Points.length=r.Points.length:=by
 show (namesL.take _).length=_
 rw [List.length_take]
 show min _ 6=_
 omega
theorem mem_rows {r:R} {x:S_api_ShNote}:x∈(rowS r).Notes↔∃i,i<r.Points.length∧(x=⟨1,i,0,⟨r.Points[i]!.Lo,r.Points[i]!.Hi⟩⟩∨0<i∧x=⟨4,i,(i:Int)-1,⟨-r.Steep,r.Steep⟩⟩):=by
 show x∈(List.range _).flatMap _↔_
 rw [List.mem_flatMap]
 constructor
 ·rintro ⟨i,hi,hx⟩
  rw [List.mem_range] at hi
  refine ⟨i,hi,?_⟩
  rw [rowN,List.mem_cons] at hx
  rcases hx with rfl|hx
  ·exact .inl rfl
  ·split at hx
   ·rename_i h0;exact .inr ⟨h0,by simpa using hx⟩
   ·simp at hx
 ·rintro ⟨i,hi,hx⟩
  refine ⟨i,List.mem_range.2 hi,?_⟩
  rw [rowN,List.mem_cons]
  rcases hx with hx|⟨h0,hx⟩
  ·exact .inl hx
  ·right;rw [if_pos h0];simp [hx]
theorem pt_at {r:R} (hg:Good r) {i:Nat} (hi:i<r.Points.length):(0≤r.Points[i]!.Lo∧r.Points[i]!.Lo≤9000)∧(0≤r.Points[i]!.Hi∧r.Points[i]!.Hi≤9000)∧r.Points[i]!.Lo≤r.Points[i]!.Hi:=hg.pts.pt i hi

theorem row_notes {r:R} (hg:Good r) (h6:r.Points.length≤6):∀x∈(rowS r).Notes,NoteV (rowS r).Interval (rowS r).Points.length x:=by
 intro x hx
 rw [row_pts h6]
 have hs0:=hg.s0
 have hs1:=hg.s1
 obtain ⟨i,hi,hx|⟨h0,hx⟩⟩:=mem_rows.1 hx
 ·have hp:=pt_at hg hi
  subst hx
  exact ⟨.inl rfl,by simp only;omega,by simp only;omega,fun _=>rfl,fun h=>by simp at h,fun _=>by simp only;omega,fun h=>by simp at h,fun h=>by simp at h,fun h=>by simp at h⟩
 ·subst hx
  exact ⟨.inr (.inr (.inr rfl)),by simp only;omega,by simp only;omega,fun h=>by simp at h,fun _=>by simp only;omega,fun h=>by simp at h,fun h=>by simp at h,fun h=>by simp at h,fun _=>by simp only;omega⟩
theorem row_many (r:R) (h6:r.Points.length≤6):(rowS r).Notes.length≤12:=by
 have:=rows_len r r.Points.length
 show ((List.range _).flatMap _).length≤12
 omega
def nOk (k:Nat):Bool:=match F136 200 (namesL.take k) [] with|some (0,0,_)=>true|_=>false
theorem nOk_all:(nOk 0&&nOk 1&&nOk 2&&nOk 3&&nOk 4&&nOk 5&&nOk 6)=true:=by kernel_rfl
theorem names_ok (n:Nat) (hn:n<7):∃m,F136 200 (namesL.take n) []=some (0,0,m):=by
 have ha:=nOk_all
 simp only [Bool.and_eq_true] at ha
 have h:nOk n=true:=by
  obtain ⟨⟨⟨⟨⟨⟨h0,h1⟩,h2⟩,h3⟩,h4⟩,h5⟩,h6⟩:=ha
  match n,hn with
  | 0,_=>exact h0
  | 1,_=>exact h1
  | 2,_=>exact h2
  | 3,_=>exact h3
  | 4,_=>exact h4
  | 5,_=>exact h5
  | 6,_=>exact h6
 unfold nOk at h
 split at h
 ·exact ⟨_,by assumption⟩
 ·simp at h
theorem row_check {r:R} (hg:Good r) (h6:r.Points.length≤6):F65 200 (rowS r)=some (0,0,0):=by
 obtain ⟨m,hm⟩:=names_ok r.Points.length (by omega)
 have h0:=hg.n0
 exact f65 (s:=rowS r) ⟨by show (1:Int)≤1;decide,by show (1:Int)≤1000;decide⟩ (by rw [row_pts h6];exact h0) (by rw [row_pts h6];omega) (row_many r h6) (row_notes hg h6) hm
theorem row_vn {r:R} (hg:Good r) (h6:r.Points.length≤6):Vn (rowS r):=vn_of ⟨by show (1:Int)≤1;decide,by show (1:Int)≤1000;decide⟩ (by rw [row_pts h6];omega) (row_many r h6) (row_notes hg h6)


def Surf (r:R) (T:Int) (x:Nat→Int):Prop:=(∀i,i<r.Points.length→r.Points[i]!.Lo≤x i∧x i≤r.Points[i]!.Hi)∧∀i,0<i→i<r.Points.length → -T≤x i-x (i-1)∧x i-x (i-1)≤T
theorem row_all {r:R} {w:Int} {h:Nat→Int}:AllH (rowS r) w h↔(∀i,i<r.Points.length→r.Points[i]!.Lo-w≤h i-h 8∧h i-h 8≤r.Points[i]!.Hi+w)∧∀i,0<i→i<r.Points.length → -r.Steep-w≤h i-h (i-1)∧h i-h (i-1)≤r.Steep+w:=by
 have e1:∀i:Nat,Holds 1 (⟨1,i,0,⟨r.Points[i]!.Lo,r.Points[i]!.Hi⟩⟩:S_api_ShNote) w h↔r.Points[i]!.Lo-w≤h i-h 8∧h i-h 8≤r.Points[i]!.Hi+w:=by
  intro i
  simp [Holds,nlo,nhi,oth]
 have e2:∀i:Nat,0<i→(Holds 1 (⟨4,i,(i:Int)-1,⟨-r.Steep,r.Steep⟩⟩:S_api_ShNote) w h ↔ -r.Steep-w≤h i-h (i-1)∧h i-h (i-1)≤r.Steep+w):=by
  intro i h0
  have:((i:Int)-1).toNat=i-1:=by omega
  simp [Holds,nlo,nhi,oth,this]
 constructor
 ·intro ha
  exact ⟨fun i hi=>(e1 i).1 (ha _ (mem_rows.2 ⟨i,hi,.inl rfl⟩)),fun i h0 hi=>(e2 i h0).1 (ha _ (mem_rows.2 ⟨i,hi,.inr ⟨h0,rfl⟩⟩))⟩
 ·rintro ⟨h1,h2⟩ x hx
  obtain ⟨i,hi,rfl|⟨h0,rfl⟩⟩:=mem_rows.1 hx
  ·exact (e1 i).2 (h1 i hi)
  ·exact (e2 i h0).2 (h2 i h0 hi)
end Go.Proofs.YtkcgfceihpampaaGreatDoor
namespace Go.Proofs.YtkcgfceihpampaaGreatDoor
open Go Go.Sx
set_option linter.all false
set_option maxRecDepth 100000

theorem getb_ext {α:Type} [Inhabited α] {l m:List α} (h:l.length=m.length) (h':∀i,i<l.length→l[i]! = m[i]!):l=m:=by
 apply List.ext_getElem h
 intro i h1 h2
 have:=h' i h1
 rwa [getElem!_pos l i h1,getElem!_pos m i h2] at this

theorem far_walk {n:Nat} {x:Nat→Int} {T:Int} (hx:∀i,0<i→i<n → -T≤x i-x (i-1)∧x i-x (i-1)≤T):∀(d a:Nat),a+d<n → -(T*d)≤x (a+d)-x a∧x (a+d)-x a≤T*d:=by
 intro d
 induction d with
 | zero=>intro a h;simp
 | succ d ih =>
  intro a h
  have h1:=ih a (by omega)
  have h2:=hx (a+(d+1)) (by omega) h
  rw [show a+(d+1)-1=a+d by omega] at h2
  have e:T*((d+1:Nat):Int)=T*d+T:=by rw [Int.natCast_add,Int.mul_add];simp
  rw [e]
  omega
theorem far_at {n:Nat} {x:Nat→Int} {T:Int} (hx:∀i,0<i→i<n → -T≤x i-x (i-1)∧x i-x (i-1)≤T) {a b:Nat} (ha:a<n) (hb:b<n):x a-x b≤far T a b:=by
 unfold far dist
 split
 ·rename_i h
  have:=(far_walk hx (b-a) a (by omega)).1
  rw [show a+(b-a)=b by omega,show ((b-a:Nat):Int)=(b:Int)-a by omega] at this
  omega
 ·rename_i h
  have:=(far_walk hx (a-b) b (by omega)).2
  rw [show b+(a-b)=a by omega,show ((a-b:Nat):Int)=(a:Int)-b by omega] at this
  omega
theorem surf_some {r:R} {T:Int} {x:Nat→Int} (h:Surf r T x):Some' T r.Points:=by
 intro a b ha hb
 have h1:=h.1 a ha
 have h2:=h.1 b hb
 have h3:=far_at h.2 ha hb
 omega
theorem far_nb {T:Int} (hT:0≤T) {i k:Nat} (h0:0<i):far T i k≤far T (i-1) k+T∧far T (i-1) k≤far T i k+T:=by
 have h1:=far_tri hT i (i-1) k
 have h2:=far_tri hT (i-1) i k
 have e1:far T i (i-1)=T:=by unfold far dist;rw [if_neg (by omega),show (i:Int)-((i-1:Nat):Int)=1 by omega,Int.mul_one]
 rw [far_symm T (i-1) i] at h2
 omega

theorem surf_lo {r:R} {T:Int} (hT:0≤T) {l:List Sp} (hb:Bnd T r.Points l) (hs:Some' T r.Points):Surf r T (fun i=>l[i]!.Lo):=by
 refine ⟨fun i hi=>?_,fun i h0 hi=>?_⟩
 ·have ht:=hb.lo i hi
  obtain ⟨k,hk,e⟩:=ht.is
  have h1:=ht.ub i hi
  have h2:=hs k i hk hi
  simp only [far_self] at h1
  rw [far_symm T k i] at h2
  simp only at e ⊢
  omega
 ·have t1:=hb.lo i hi
  have t2:=hb.lo (i-1) (by omega)
  obtain ⟨k,hk,e⟩:=t1.is
  obtain ⟨m,hm,f⟩:=t2.is
  have g1:=t2.ub k hk
  have g2:=t1.ub m hm
  have f1:=far_nb hT (i:=i) (k:=k) h0
  have f2:=far_nb hT (i:=i) (k:=m) h0
  simp only at e f g1 g2 ⊢
  omega
theorem surf_hi {r:R} {T:Int} (hT:0≤T) {l:List Sp} (hb:Bnd T r.Points l) (hs:Some' T r.Points):Surf r T (fun i=>l[i]!.Hi):=by
 refine ⟨fun i hi=>?_,fun i h0 hi=>?_⟩
 ·have ht:=hb.hi i hi
  obtain ⟨k,hk,e⟩:=ht.is
  have h1:=ht.ub i hi
  have h2:=hs i k hi hk
  simp only [far_self] at h1
  simp only at e ⊢
  omega
 ·have t1:=hb.hi i hi
  have t2:=hb.hi (i-1) (by omega)
  obtain ⟨k,hk,e⟩:=t1.is
  obtain ⟨m,hm,f⟩:=t2.is
  have g1:=t2.ub k hk
  have g2:=t1.ub m hm
  have f1:=far_nb hT (i:=i) (k:=k) h0
  have f2:=far_nb hT (i:=i) (k:=m) h0
  simp only at e f g1 g2 ⊢
  omega
theorem some_bnd {r:R} {T:Int} (hp:Pts T r.Points) (h0:0<r.Points.length):∃l,Bnd T r.Points l:=by
 obtain ⟨l,b,_,h,_⟩:=e51 (k:=20) (by omega) hp h0
 exact ⟨l,h.bnd⟩


def ext (n:Nat) (x:Nat→Int) (k:Nat):Int:=if k<n then x k else 0
theorem ext_sat {r:R} (hg:Good r) (h6:r.Points.length≤6) {T:Int} {x:Nat→Int} (h:Surf r T x):Sat (ext r.Points.length x) freeL:=by
 rw [sat_free]
 intro i hi
 have e8:ext r.Points.length x 8=0:=if_neg (by omega)
 rw [e8]
 unfold ext
 split
 ·rename_i hlt
  have h1:=h.1 i hlt
  have h2:=pt_at hg hlt
  omega
 ·omega
theorem ext_all {r:R} (hg:Good r) (h6:r.Points.length≤6) {T w:Int} {x:Nat→Int} (h:Surf r T x) (hw:0≤w) (hT:T≤r.Steep+w):AllH (rowS r) w (ext r.Points.length x):=by
 rw [row_all]
 have e8:ext r.Points.length x 8=0:=if_neg (by omega)
 refine ⟨fun i hi=>?_,fun i h0 hi=>?_⟩
 ·have h1:=h.1 i hi
  rw [e8,ext,if_pos hi]
  omega
 ·have h2:=h.2 i h0 hi
  rw [ext,if_pos hi,ext,if_pos (by omega)]
  omega
theorem all_surf {r:R} {h:Nat→Int} (ha:AllH (rowS r) 0 h):Surf r r.Steep (fun i=>h i-h 8):=by
 rw [row_all] at ha
 refine ⟨fun i hi=>?_,fun i h0 hi=>?_⟩
 ·have:=ha.1 i hi;simp only;omega
 ·have:=ha.2 i h0 hi;simp only;omega

theorem fit_some {r:R} (hg:Good r) (h6:r.Points.length≤6):Fit (rowS r) 0↔Some' r.Steep r.Points:=by
 constructor
 ·rintro ⟨h,_,ha⟩;exact surf_some (all_surf ha)
 ·intro hs
  obtain ⟨l,hb⟩:=some_bnd hg.pts (by have:=hg.n0;omega)
  have hx:=surf_lo hg.s0 hb hs
  exact ⟨_,ext_sat hg h6 hx,ext_all hg h6 hx (by omega) (by omega)⟩
theorem fit_need {r:R} (hg:Good r) (h6:r.Points.length≤6) {v w:Int} (hn:Need' r.Points v) (hw:0≤w) (hv:v≤r.Steep+w):Fit (rowS r) w:=by
 have hp:=hg.pts
 obtain ⟨l,hb⟩:=some_bnd (r:=r) (T:=v) ⟨hn.ge,hn.le,hp.n1,hp.pt⟩ (by have:=hg.n0;omega)
 have hx:=surf_lo hn.ge hb hn.is
 exact ⟨_,ext_sat hg h6 hx,ext_all hg h6 hx hw hv⟩

theorem row_heights {r:R} (hg:Good r) (h6:r.Points.length≤6) {b:List Int} (hc:Cl b) (hs:∀h,Sat h b↔Sat h freeL∧AllH (rowS r) 0 h) {l:List Sp} (hb:Bnd r.Steep r.Points l) (hso:Some' r.Steep r.Points) :
 (List.range (rowS r).Points.length).map (fun i=>(⟨-M b i 8,M b 8 i⟩:Sp))=l:=by
 rw [row_pts h6]
 have d8:=hc.diag 8 (by omega)
 have x1:=all_surf ((hs _).1 (hc.bot (j:=8) (by omega))).2
 have x2:=all_surf ((hs _).1 (hc.top (j:=8) (by omega))).2
 have y1:=(hs _).2 ⟨ext_sat hg h6 (surf_lo hg.s0 hb hso),ext_all hg h6 (surf_lo hg.s0 hb hso) (Int.le_refl 0) (by omega)⟩
 have y2:=(hs _).2 ⟨ext_sat hg h6 (surf_hi hg.s0 hb hso),ext_all hg h6 (surf_hi hg.s0 hb hso) (Int.le_refl 0) (by omega)⟩
 refine getb_ext (by simp [hb.len]) fun i hi=>?_
 rw [List.length_map,List.length_range] at hi
 rw [getElem!_pos _ i (by simpa using hi),List.getElem_map,List.getElem_range]
 have e8:∀f,ext r.Points.length f 8=0:=fun f=>if_neg (by omega)
 have hlo : -M b i 8=l[i]!.Lo:=by
  have g1:=y1 i 8 (by omega) (by omega)
  rw [e8,ext,if_pos hi] at g1
  obtain ⟨k,hk,e⟩:=(hb.lo i hi).is
  have g2:=far_at x1.2 hk hi
  have g3:=(x1.1 k hk).1
  rw [far_symm] at g2
  simp only at e g1 g2 g3
  omega
 have hhi:M b 8 i=l[i]!.Hi:=by
  have g1:=y2 8 i (by omega) (by omega)
  rw [e8,ext,if_pos hi] at g1
  obtain ⟨k,hk,e⟩:=(hb.hi i hi).is
  have g2:=far_at x2.2 hi hk
  have g3:=(x2.1 k hk).2
  simp only at e g1 g2 g3
  omega
 rw [hlo,hhi]
end Go.Proofs.YtkcgfceihpampaaGreatDoor
namespace Go.Proofs.YtkcgfceihpampaaGreatDoor
open Go Go.Sx
set_option linter.all false
set_option maxRecDepth 100000

theorem law3 (h7:F7 200=some true) (h8:F8 200=some true) (r:R):F3 200 r=some true:=by
 classical
 unfold F3
 rw [e17 (by omega),Option.bind_some]
 by_cases hbad:¬Good r∨6<r.Points.length
 ·have hc:cond ((chk r).2.2 != 0) true (decide ((r.Points.length:Int)>6))=true:=by
   rcases hbad with h|h
   ·have:=chk_bad h
    rw [show ((chk r).2.2 != 0)=true by simpa using this];rfl
   ·rw [show decide ((r.Points.length:Int)>6)=true by simp;omega]
    cases (chk r).2.2 != 0<;>rfl
  rw [if_pos hc,h7,Option.bind_some,optG_true,h8]
  rfl
 ·have hg:Good r:=by
   rcases Classical.em (Good r) with h|h
   ·exact h
   ·exact absurd (.inl h) hbad
  have h6:r.Points.length≤6:=by
   rcases Nat.lt_or_ge 6 r.Points.length with h|h
   ·exact absurd (.inr h) hbad
   ·exact h
  have hc:cond ((chk r).2.2 != 0) true (decide ((r.Points.length:Int)>6))=false:=by
   rw [chk_good hg,show decide ((r.Points.length:Int)>6)=false by simp;omega];rfl
  rw [if_neg (by rw [hc];simp),e9 hg h6,Option.bind_some]
  rw [show (⟨(rowS r).Interval,(rowS r).Points,(rowS r).Notes⟩:S_api_ShSheet)=rowS r from rfl]
  obtain ⟨⟨a,e⟩,q1,ha⟩:=heights_ok (row_vn hg h6) (by rw [row_pts h6];omega) (row_check hg h6)
  obtain ⟨⟨b,f⟩,q2,hb⟩:=e18 (k:=200) (by omega) r
  obtain ⟨⟨is,g⟩,q3,hi⟩:=fits_ok (row_vn hg h6) (row_check hg h6)
  obtain ⟨⟨n,h⟩,q4,hn⟩:=e23 (k:=200) (by omega) r
  obtain ⟨⟨w,i⟩,q5,hw⟩:=wider_ok (row_vn hg h6) (row_check hg h6)
  rw [q1,Option.bind_some,q2,Option.bind_some,q3,Option.bind_some,q4,Option.bind_some,q5,Option.bind_some]
  simp only at ha hi hw ⊢
  obtain ⟨hg0,his⟩:=hi
  obtain ⟨hh0,hnd⟩:=hn.ok hg
  simp only at hh0 hnd
  obtain ⟨hi0,hw0,hw9,hwf,hwn⟩:=hw
  subst hg0;subst hh0;subst hi0
  rw [fit_some hg h6] at his
  have hab:a=b∧e=f∧(f=0↔Some' r.Steep r.Points):=by
   by_cases hs:Some' r.Steep r.Points
   ·obtain ⟨hf,hbn⟩:=hb.ok hg hs
    simp only at hf hbn
    rcases ha with ⟨he,M',h1,h2,h3⟩|⟨_,hno⟩
    ·exact ⟨by rw [h3];exact row_heights hg h6 h1 h2 hbn hs,by rw [he,hf],by simp [hf,hs]⟩
    ·exact absurd ((fit_some hg h6).2 hs) hno
   ·have h1:=hb.down hg hs
    simp only [Prod.mk.injEq] at h1
    rcases ha with ⟨he,M',h2,h3,_⟩|⟨h2,_⟩
    ·exact absurd ((fit_some hg h6).1 ⟨_,(h3 _).1 (h2.top (j:=8) (by omega))⟩) hs
    ·simp only [Prod.mk.injEq] at h2
     exact ⟨by rw [h1.1,h2.1],by rw [h1.2,h2.2],by simp [h1.2,hs]⟩
  obtain ⟨rfl,rfl,hfs⟩:=hab
  have hisb:is=decide (Some' r.Steep r.Points):=by
   by_cases hs:Some' r.Steep r.Points
   ·rw [his.2 hs,decide_eq_true hs]
   ·rw [decide_eq_false hs]
    cases is with
    | true=>exact absurd (his.1 rfl) hs
    | false=>rfl
  have hfb:(e==0)=is:=by
   rw [hisb]
   by_cases hs:Some' r.Steep r.Points
   ·rw [hfs.2 hs,decide_eq_true hs];rfl
   ·rw [decide_eq_false hs]
    have:=fun h=>hs (hfs.1 h)
    simpa using this
  have hlen:a.length≤10:=BRes.len hb
  simp only [bne_self_eq_false,cond_false,hfb,beq_self_eq_true,Bool.not_true,Bool.not_false,optG_true]
  rw [e20 (by omega) (by omega),Option.bind_some]
  simp only [Bool.not_true,cond_false,Bool.false_eq_true,if_false]
  have hs0:=hg.s0
  have hs1:=hg.s1
  have hn0:=hnd.ge
  have hn9:=hnd.le
  rw [w64_id (n:=n-r.Steep) (by omega) (by omega)]
  have c1:decide (w≥0)=true:=by simpa using hw0
  have c2:decide (w≤if n-r.Steep>0 then n-r.Steep else 0)=true:=by
   rw [decide_eq_true_eq]
   rcases Int.lt_or_le (if n-r.Steep>0 then n-r.Steep else 0) w with h|h
   ·refine absurd (fit_need hg h6 hnd ?_ ?_) (hwn _ ?_ h)
    ·split<;>omega
    ·split<;>omega
    ·split<;>omega
   ·exact h
  have c3:((w==0)==is)=true:=by
   rw [hisb]
   by_cases hs:Some' r.Steep r.Points
   ·have:w=0:=by
     rcases Int.lt_or_le 0 w with h|h
     ·exact absurd ((fit_some hg h6).2 hs) (hwn 0 (by omega) h)
     ·omega
    rw [this,decide_eq_true hs];rfl
   ·have:w≠0:=fun h=>by
     rcases hwf with h1|h1
     ·omega
     ·rw [h] at h1;exact hs ((fit_some hg h6).1 h1)
    rw [decide_eq_false hs]
    simpa using this
  rw [c1,c2,c3]
  simp only [cond_true,optG_true,h7,Option.bind_some,h8]
end Go.Proofs.YtkcgfceihpampaaGreatDoor
