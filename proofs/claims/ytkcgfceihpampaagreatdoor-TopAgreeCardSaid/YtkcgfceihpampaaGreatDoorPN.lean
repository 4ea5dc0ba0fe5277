/- What a program of mine carried over from another seat of mine. -/
import Derived.Test.YtkcgfceihpampaaGreatDoorDE
import Derived.Laws.RangeAny
import Derived.Laws.RangeString
namespace Go.Proofs.YtkcgfceihpampaaGreatDoor
open Go Go.Sx
set_option linter.all false
set_option maxRecDepth 100000
set_option linter.all false
theorem w64_id {n:Int} (h1 : -9223372036854775808≤n) (h2:n≤9223372036854775807):w64 n=n:=by
 show (if (true&&decide (n % (18446744073709551616:Int)≥9223372036854775808))=true then n % (18446744073709551616:Int)-18446744073709551616 else n % (18446744073709551616:Int))=n;by_cases h:n % 18446744073709551616≥9223372036854775808
 ·rw [if_pos (by simp [h])];omega
 ·rw [if_neg (by simp [h])];omega
theorem idx_bang {α:Type} [Inhabited α] {l:List α} {c:Int} (h0:0≤c) (h1:c<l.length):idx l c=some l[c.toNat]! := by
 unfold idx;rw [if_pos h0,Zd (by omega),getElem!_pos l c.toNat (by omega)]
theorem idx_nat {α:Type} [Inhabited α] {l:List α} {i:Nat} (h1:i<l.length):idx l (i:Int)=some l[i]! := by
 rw [idx_bang (by omega) (by omega),Int.toNat_natCast]
theorem optG_true {α:Type} [Inhabited α] {x:Option α}:optG true x=x:=rfl
theorem optG_false {α:Type} [Inhabited α] {x:Option α}:optG false x=some default:=rfl
section
variable {α σ τ β γ:Type} [Inhabited α]

def runE (f:Nat→α→σ→β⊕σ):List α→Nat→σ→β⊕σ
 | [],_,s => .inr s
 | x::xs,i,s=>match f i x s with
  | .inl b => .inl b
  | .inr s'=>runE f xs (i+1) s'
def outS (fin:σ→γ):β⊕σ→β⊕γ
 | .inl b => .inl b
 | .inr s => .inr (fin s)
theorem for_loop {l:List α} {L:Nat→τ→Option (β⊕γ)} (enc:Nat→σ→τ) (fin:σ→γ) (f:Nat→α→σ→β⊕σ) (P:Nat→σ→Prop)
 (hP:∀i s s',i<l.length→P i s→f i l[i]! s = .inr s'→P (i+1) s')
 (hstep:∀n i s,i<l.length→P i s→L (n+1) (enc i s)=match f i l[i]! s with | .inl b=>some (.inl b) | .inr s'=>L n (enc (i+1) s'))
 (hend:∀n s,P l.length s→L (n+1) (enc l.length s)=some (.inr (fin s))) :
 ∀n s,P 0 s→l.length<n→L n (enc 0 s)=some (outS fin (runE f l 0 s)):=by
 have key:∀(suf pre:List α) (n:Nat) (s:σ),l=pre++suf→P pre.length s→suf.length<n→L n (enc pre.length s)=some (outS fin (runE f suf pre.length s)):=by
  intro suf;induction suf with
  | nil =>
   intro pre n s hl hp hn;obtain ⟨n,rfl⟩:∃m,n=m+1:=⟨n-1,by simp at hn;omega⟩
   rw [Yh] at hl;subst hl;rw [hend n s hp];rfl
  | cons x suf ih =>
   intro pre n s hl hp hn;obtain ⟨n,rfl⟩:∃m,n=m+1:=⟨n-1,by simp at hn;omega⟩
   simp only [ZF] at hn;have hi:pre.length<l.length:=by rw [hl];simp
   have hx:l[pre.length]! = x:=by
    rw [getElem!_pos l pre.length hi];simp [hl]
   have hs:=hstep n pre.length s hi hp;have hq:=hP pre.length s;rw [hx] at hs hq;rw [hs,runE];cases hf:f pre.length x s with
   | inl b=>rfl
   | inr s' =>
    simp only;have:=ih (pre++[x]) n s' (by simp [hl]) (by simpa using hq s' hi hp hf) (by omega);simpa using this
 intro n s hp hn;exact key l [] n s rfl hp hn
end

def fstB {α:Type} (p:α→Bool):List α→Nat→Option Nat
 | [],_=>none
 | x::xs,i=>if p x then some i else fstB p xs (i+1)

theorem index_loop {α:Type} [Inhabited α] {l:List α} {L:Nat→Int→Option (Int⊕Unit)} {p:α→Bool} (h62:l.length<2^62)
 (hL:∀n (i:Nat),i<l.length→L (n+1) (i:Int)=if p l[i]! then some (.inl (i:Int)) else L n (w64 ((i:Int)+1)))
 (hend:∀n,L (n+1) (l.length:Int)=some (.inr ())) :
 ∀n,l.length<n→∃o,L n 0=some o∧outK o (fun (r:Int)=>some r) (fun (_:Unit)=>some (-1))=some (match fstB p l 0 with|some k=>(k:Int)|none => -1):=by
 intro n hn
 have h:=for_loop (l:=l) (L:=L) (σ:=Unit) (fun i _=>(i:Int)) (fun s=>s) (fun i x _=>if p x then .inl (i:Int) else .inr ()) (fun _ _=>True) (fun _ _ _ _ _ _=>trivial)
  (fun n i s hi _=>by
   rw [hL n i hi];cases p l[i]! with
   | true=>rfl
   | false=>simp only [Zk,if_false];rw [w64_id (by omega) (by omega)];rfl)
  (fun n s _=>hend n) n () trivial hn
 refine ⟨_,h,?_⟩
 have hr:∀(l:List α) (i:Nat),runE (β:=Int) (fun i x (_:Unit)=>if p x then .inl (i:Int) else .inr ()) l i ()=match fstB p l i with|some k => .inl (k:Int)|none => .inr ():=by
  intro l;induction l with
  | nil=>intro i;rfl
  | cons x l ih =>
   intro i;rw [runE,fstB];cases p x with
   | true=>rfl
   | false=>simp only [Zk,if_false];exact ih (i+1)
 rw [hr];cases fstB p l 0<;>rfl

def okM (lo hi n:Int):Bool:=decide (lo≤n)&&decide (n≤hi)
theorem okN_iff {lo hi n:Int}:okM lo hi n=true↔lo≤n∧n≤hi:=by simp [okM]
theorem e54 (n lo hi:Int):F71 n lo hi=some (okM lo hi n):=by
 unfold F71 okM;congr 1;rw [Bool.eq_iff_iff];cases h:decide (n≥lo) with
 | true=>simp at h;simp [h]
 | false=>simp at h;simp [h]
theorem e106 (n lo hi:Int):F71 n lo hi=some (okM lo hi n):=e54 n lo hi

def okFrom (s:ByteArray) (pos:Nat):Prop:=∀i (h:i<s.size),pos≤i→okRune i (s[i]'h).toNat=true
theorem nameF_iff (s:ByteArray):∀(f pos:Nat),s.size≤pos+f→(nameF s f pos=true↔okFrom s pos):=by
 intro f;induction f with
 | zero =>
  intro pos h;exact ⟨fun _ i hi hp=>by omega,fun _=>rfl⟩
 | succ f ih =>
  intro pos h;rw [nameF];by_cases hp:pos<s.size
  ·rw [if_pos hp];by_cases ha:(s[pos]'hp).toNat<128
   ·rw [decode_ascii s pos hp ha];simp only;cases hk:okRune pos (s[pos]'hp).toNat with
    | true =>
     rw [if_pos rfl,ih (pos+1) (by omega)];exact ⟨fun h i hi hpi=>(Nat.eq_or_lt_of_le hpi).elim (fun e=>by subst e;exact hk) (fun e=>h i hi e),fun h i hi hpi=>h i hi (by omega)⟩
    | false =>
     simp only [Zk,if_false,false_iff];intro h;have:=h pos hp (Zx _);rw [hk] at this;simp at this
   ·have hd:=(decode_high s pos hp (by omega)).1
    have h1:okRune pos (Utf8.decode s pos).1=false:=by
     simp only [okRune,Bool.or_eq_false_iff,Bool.and_eq_false_iff,decide_eq_false_iff_not];omega
    rw [h1];simp only [Zk,if_false,false_iff];intro h;have:=h pos hp (Zx _)
    have h2:okRune pos (s[pos]'hp).toNat=false:=by
     simp only [okRune,Bool.or_eq_false_iff,Bool.and_eq_false_iff,decide_eq_false_iff_not];omega
    rw [h2] at this;simp at this
  ·rw [if_neg hp];exact ⟨fun _ i hi hpi=>by omega,fun _=>rfl⟩
theorem nameB_iff (s:ByteArray):nameB s=true↔okFrom s 0∧0<s.size∧s.size≤16:=by
 unfold nameB;rw [Zh,nameF_iff s s.size 0 (by omega)];simp

def badI (x:Int):Bool:=cond (cond (cond (decide (x<97)) true (decide (x>122))) (cond (decide (x<48)) true (decide (x>57))) false) (x != 45) false
theorem strAt_get {s:ByteArray} {i:Nat} (h:i<s.size):strAt s (i:Int)=some (((s[i]'h).toNat:Nat):Int):=by
 unfold strAt;rw [if_pos (by omega),Int.toNat_natCast,getElem?_pos s i h];rfl
theorem e101L1_step {s:ByteArray} {n i:Nat} (h:i<s.size) (h62:s.size<2^62):F142L1 s (n+1) (i:Int)=if badI ((s[i]'h).toNat:Nat) then some (.inl false) else F142L1 s n ((i+1:Nat):Int):=by
 rw [F142L1,if_pos (by simp;omega),strAt_get h,Za,w64_id (by omega) (by omega)];generalize (((s[i]'h).toNat:Nat):Int)=x;unfold badI;cases h1:decide (x<97)<;>cases h2:decide (x>122)<;>cases h3:decide (x<48)<;>cases h4:decide (x>57)<;>simp only [h1,h2,h3,h4,optG_true,optG_false,Za,cond_true,cond_false,Zt,Zs,ZD,Bool.and_false,Bool.true_and,Bool.false_and]<;>rfl
theorem e101L1 {s:ByteArray} (h62:s.size<2^62):∀(m n i:Nat),s.size=i+m→m<n→F142L1 s n (i:Int)=if (∀j (h:j<s.size),i≤j→badI ((s[j]'h).toNat:Nat)=false) then some (.inr ()) else some (.inl false):=by
 intro m;induction m with
 | zero =>
  intro n i hi hn;obtain ⟨n,rfl⟩:∃q,n=q+1:=⟨n-1,by omega⟩
  rw [F142L1,if_neg (by simp;omega),if_pos (fun j hj hij=>by omega)]
 | succ m ih =>
  intro n i hi hn;obtain ⟨n,rfl⟩:∃q,n=q+1:=⟨n-1,by omega⟩
  have hlt:i<s.size:=by omega
  rw [e101L1_step hlt h62];cases hb:badI ((s[i]'hlt).toNat:Nat) with
  | true=>rw [if_pos rfl,if_neg (fun h=>by rw [h i hlt (Zx _)] at hb;simp at hb)]
  | false =>
   rw [if_neg (by simp),ih n (i+1) (by omega) (by omega)];by_cases h:∀j (h:j<s.size),i+1≤j→badI ((s[j]'h).toNat:Nat)=false
   ·rw [if_pos h,if_pos (fun j hj hij=>(Nat.eq_or_lt_of_le hij).elim (fun e=>by subst e;exact hb) (fun e=>h j hj e))]
   ·rw [if_neg h,if_neg (fun h'=>h (fun j hj hij=>h' j hj (by omega)))]
theorem badI_okRune {i n:Nat}:badI (n:Int)=false↔okRune (i+1) n=true:=by
 unfold badI okRune;cases h1:decide ((n:Int)<97)<;>cases h2:decide ((n:Int)>122)<;>cases h3:decide ((n:Int)<48)<;>cases h4:decide ((n:Int)>57)<;>simp_all<;>omega
theorem e101 {k:Nat} (s:ByteArray) (hk:17≤k):F142 k s=some (nameB s):=by
 unfold F142;rw [e106,Za];cases hsz:okM 1 16 s.size with
 | false =>
  have:nameB s=false:=by
   cases hn:nameB s with
   | false=>rfl
   | true =>
    have:=(nameB_iff s).1 hn;simp only [okM,Bool.and_eq_false_iff,decide_eq_false_iff_not] at hsz;omega
  rw [this];rfl
 | true =>
  have hz:=okN_iff.1 hsz;have h0:0<s.size:=by omega
  have hst:strAt s 0=some (((s[0]'h0).toNat:Nat):Int):=strAt_get h0;rw [hst];simp only [Zt,Zs,optG_true,Za]
  have key:∀b:Bool,(nameB s=b)→(if (cond (cond false true (decide ((((s[0]'h0).toNat:Nat):Int)<97))) true (decide ((((s[0]'h0).toNat:Nat):Int)>122))) then some false else ((F142L1 s k 0).bind fun o5=>outK o5 (fun (ro5:Bool)=>some ro5) (fun (so5:Unit)=>some true)))=some b:=by
   intro b hb;rw [show (0:Int)=((0:Nat):Int) from rfl,e101L1 (by omega) s.size k 0 (by omega) (by omega)];by_cases hlow:(cond (cond false true (decide ((((s[0]'h0).toNat:Nat):Int)<97))) true (decide ((((s[0]'h0).toNat:Nat):Int)>122)))=true
   ·rw [if_pos hlow];cases b with
    | false=>rfl
    | true =>
     have:=((nameB_iff s).1 hb).1 0 h0 (Zx _);exfalso;simp only [okRune,Nat.lt_irrefl,decide_false,Bool.false_and,Bool.or_false,Zh,decide_eq_true_eq] at this;cases h1:decide ((((s[0]'h0).toNat:Nat):Int)<97)<;>simp_all<;>omega
   ·rw [if_neg hlow]
    have hlow':97≤(s[0]'h0).toNat∧(s[0]'h0).toNat≤122:=by
     cases h1:decide ((((s[0]'h0).toNat:Nat):Int)<97)<;>simp_all<;>omega
    by_cases hall:∀j (h:j<s.size),0≤j→badI ((s[j]'h).toNat:Nat)=false
    ·rw [if_pos hall]
     have:nameB s=true:=(nameB_iff s).2 ⟨fun i hi _=>by
      cases i with
      | zero=>simp [okRune];omega
      | succ i=>exact badI_okRune.1 (hall (i+1) hi (by omega)),by omega,by omega⟩
     rw [this] at hb;subst hb;rfl
    ·rw [if_neg hall]
     have:nameB s=false:=by
      cases hn:nameB s with
      | false=>rfl
      | true =>
       have h1:=((nameB_iff s).1 hn).1
       exact absurd (fun j hj _=>by
        cases j with
        | zero=>exact (badI_okRune (i:=0)).2 (by simp [okRune];omega)
        | succ j=>exact badI_okRune.2 (h1 (j+1) hj (by omega))) hall
     rw [this] at hb;subst hb;rfl
  have:=key (nameB s) rfl;revert this;cases h1:decide ((((s[0]'h0).toNat:Nat):Int)<97)<;>simp [optG]
theorem e102 {k:Nat} {l:List ByteArray} {nm:ByteArray} (hk:l.length<k) (hl:l.length<2^62):F143 k l nm=some (match fstB (fun x=>x==nm) l 0 with|some k=>(k:Int)|none => -1):=by
 unfold F143
 obtain ⟨o,h1,h2⟩:=index_loop (l:=l) (L:=F143L1 l nm) (p:=fun x=>x==nm) hl
  (fun n i hi=>by rw [F143L1,if_pos (by simp;omega),idx_nat hi,Za])
  (fun n=>by rw [F143L1,if_neg (by simp)]) k hk
 rw [h1,Za,h2]
end Go.Proofs.YtkcgfceihpampaaGreatDoor
