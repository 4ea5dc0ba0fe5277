/- Without of the program: of all sets of edges without which some changes agree, the fewest, and of these the first. -/
import Derived.Test.YtallnifoeahpiaaPX
import Derived.Test.YtallnifoeahpiaaDEF
namespace Go.Proofs.Ytallnifoeahpiaa
open Go Go.Sx
set_option linter.all false
set_option maxRecDepth 100000


def cmpL:List Int→List Int→Int
 | [],[]=>0
 | [],_::_ => -1
 | _::_,[]=>1
 | x::a,y::b=>if x<y then -1 else if x>y then 1 else cmpL a b
theorem cmpL_flip:∀(a b:List Int),cmpL b a = -cmpL a b:=by
 intro a
 induction a with
 | nil=>intro b;cases b<;>simp [cmpL]
 | cons x a ih =>
  intro b
  cases b with
  | nil=>simp [cmpL]
  | cons y b =>
   rw [cmpL,cmpL,ih b]
   by_cases h1:x<y
   ·rw [if_neg (by omega),if_pos (by omega),if_pos h1];rfl
   ·by_cases h2:x>y
    ·rw [if_pos (by omega),if_neg h1,if_pos h2]
    ·rw [if_neg (by omega),if_neg (by omega),if_neg h1,if_neg h2]
theorem cmpL_eq:∀(a b:List Int),cmpL a b=0→a=b:=by
 intro a
 induction a with
 | nil=>intro b h;cases b with
  | nil=>rfl
  | cons y b=>simp [cmpL] at h
 | cons x a ih =>
  intro b h
  cases b with
  | nil=>simp [cmpL] at h
  | cons y b =>
   rw [cmpL] at h
   split at h
   ·simp at h
   ·split at h
    ·simp at h
    ·rw [ih b h,show x=y by omega]
theorem cmpL_trans:∀(a b c:List Int),cmpL a b≤0→cmpL b c≤0→cmpL a c≤0:=by
 intro a
 induction a with
 | nil=>intro b c _ _;cases c<;>simp [cmpL]
 | cons x a ih =>
  intro b c h1 h2
  cases b with
  | nil=>simp [cmpL] at h1
  | cons y b =>
   cases c with
   | nil=>simp [cmpL] at h2
   | cons z c =>
    rw [cmpL] at h1 h2 ⊢
    by_cases a1:x<y
    ·by_cases b1:y<z
     ·rw [if_pos (by omega)];omega
     ·by_cases b2:y>z
      ·rw [if_neg b1,if_pos b2] at h2;omega
      ·rw [if_pos (by omega)];omega
    ·by_cases a2:x>y
     ·rw [if_neg a1,if_pos a2] at h1;omega
     ·rw [if_neg a1,if_neg a2] at h1
      by_cases b1:y<z
      ·rw [if_pos (by omega)];omega
      ·by_cases b2:y>z
       ·rw [if_neg b1,if_pos b2] at h2;omega
       ·rw [if_neg b1,if_neg b2] at h2
        rw [if_neg (by omega),if_neg (by omega)]
        exact ih b c h1 h2

def Bet (a b:List Int):Prop:=a.length<b.length∨(a.length=b.length∧cmpL a b≤0)
theorem Bet.trans {a b c:List Int} (h:Bet a b) (g:Bet b c):Bet a c:=by
 rcases h with h|⟨h,h2⟩<;>rcases g with g|⟨g,g2⟩
 ·exact .inl (by omega)
 ·exact .inl (by omega)
 ·exact .inl (by omega)
 ·exact .inr ⟨by omega,cmpL_trans a b c h2 g2⟩
theorem Bet.eq {a b:List Int} (h:Bet a b) (g:Bet b a):a=b:=by
 rcases h with h|⟨h,h2⟩<;>rcases g with g|⟨g,g2⟩<;>first|omega|skip
 rw [cmpL_flip] at g2
 exact cmpL_eq a b (by omega)
theorem e94 (x y:Int):F94 x y=some (if x<y then -1 else if x>y then 1 else 0):=by
 unfold F94 F105
 simp only [Option.bind_some,bne_self_eq_false,Bool.false_eq_true,if_false]
 by_cases h1:x<y
 ·rw [if_pos (decide_eq_true h1),if_pos h1]
 ·rw [if_neg (by rw [decide_eq_false h1];simp),if_neg h1]
  by_cases h2:x>y
  ·rw [if_pos (decide_eq_true h2),if_pos h2]
  ·rw [if_neg (by rw [decide_eq_false h2];simp),if_neg h2]
theorem e73 {k:Nat} {a b:List Int} (hk:a.length<k) (ha:a.length<2^62):F73v1 k a b=some (cmpL a b):=by
 have key:∀(sa pa sb pb:List Int) (n:Nat),a=pa++sa→b=pb++sb→pa.length=pb.length→sa.length<n→(F73v1L1 a b n (pa.length:Int)).bind (fun o1=>outK o1 (fun (ro1:Int)=>some ro1) (fun (so1:Unit)=>if (decide ((a.length:Int)<(b.length:Int))) then (some (-1)) else (some 0)))=some (cmpL sa sb):=by
  intro sa
  induction sa with
  | nil =>
   intro pa sb pb n h1 h2 h3 hn
   obtain ⟨n,rfl⟩:∃q,n=q+1:=⟨n-1,by simp at hn;omega⟩
   rw [List.append_nil] at h1;subst h1
   have hbl:b.length=pb.length+sb.length:=by rw [h2];simp
   rw [F73v1L1,if_neg (by simp),Option.bind_some]
   simp only [outK]
   cases sb with
   | nil =>
    simp only [List.length_nil,Nat.add_zero] at hbl
    rw [if_neg (by simp;omega)];rfl
   | cons y sb =>
    simp only [List.length_cons] at hbl
    rw [if_pos (by simp;omega)];rfl
  | cons x sa ih =>
   intro pa sb pb n h1 h2 h3 hn
   obtain ⟨n,rfl⟩:∃q,n=q+1:=⟨n-1,by simp at hn;omega⟩
   have hal:a.length=pa.length+sa.length+1:=by rw [h1];simp;omega
   have hbl:b.length=pb.length+sb.length:=by rw [h2];simp
   have hx:idx a (pa.length:Int)=some x:=by rw [h1];exact idx_mid rfl
   rw [F73v1L1,if_pos (by simp;omega),hx,Option.bind_some]
   cases sb with
   | nil =>
    simp only [List.length_nil,Nat.add_zero] at hbl
    rw [if_pos (by simp;omega),Option.bind_some];rfl
   | cons y sb =>
    simp only [List.length_cons] at hbl
    have hy:idx b (pa.length:Int)=some y:=by rw [h2];exact idx_mid (by omega)
    rw [if_neg (by simp;omega),hy,Option.bind_some,e94,Option.bind_some,cmpL]
    by_cases c1:x<y
    ·rw [if_pos c1,if_pos c1,if_pos (by decide),Option.bind_some];rfl
    ·by_cases c2:x>y
     ·rw [if_neg c1,if_pos c2,if_neg c1,if_pos c2,if_pos (by decide),Option.bind_some];rfl
     ·rw [if_neg c1,if_neg c2,if_neg c1,if_neg c2,if_neg (by decide),w64_id (by omega) (by omega)]
      have:=ih (pa++[x]) sb (pb++[y]) n (by simp [h1]) (by simp [h2]) (by simp;omega) (by simp at hn;omega)
      simpa using this
 unfold F73v1
 have:=key a [] b [] k rfl rfl rfl hk
 exact this


def bitsN (m:Nat) (S:Int):List Nat:=(List.range m).filter fun i => !keep S i
def bitsL (m:Nat) (S:Int):List Int:=(bitsN m S).map fun (i:Nat)=>(i:Int)
theorem bitsL_succ (m:Nat) (S:Int):bitsL (m+1) S=if keep S m then bitsL m S else bitsL m S++[(m:Int)]:=by
 unfold bitsL bitsN
 rw [List.range_succ,List.filter_append,List.map_append]
 cases hk:keep S m<;>simp [hk]
theorem mem_bits {m:Nat} {S:Int} {i:Nat} (h:i<m):(i:Int)∈bitsL m S↔keep S i=false:=by
 unfold bitsL bitsN
 rw [List.mem_map]
 constructor
 ·rintro ⟨j,hj,he⟩
  have:j=i:=by omega
  subst this
  simpa using (List.mem_filter.1 hj).2
 ·intro hk
  exact ⟨i,List.mem_filter.2 ⟨List.mem_range.2 h,by rw [hk];rfl⟩,rfl⟩

def Asc (m:Nat) (l:List Int):Prop:=l.Pairwise (· < ·)∧∀v∈l,0≤v∧v<m
theorem bits_asc (m:Nat) (S:Int):Asc m (bitsL m S):=by
 constructor
 ·unfold bitsL bitsN
  rw [List.pairwise_map]
  exact (List.Pairwise.filter _ List.pairwise_lt_range).imp fun h=>by omega
 ·intro v hv
  unfold bitsL bitsN at hv
  obtain ⟨i,hi,rfl⟩:=List.mem_map.1 hv
  have:=List.mem_range.1 (List.mem_filter.1 hi).1
  omega
theorem asc_eq:∀(a b:List Int),a.Pairwise (· < ·)→b.Pairwise (· < ·)→(∀v,v∈a↔v∈b)→a=b:=by
 intro a
 induction a with
 | nil =>
  intro b _ _ h
  cases b with
  | nil=>rfl
  | cons y b=>have:=(h y).2 (by simp);simp at this
 | cons x a ih =>
  intro b ha hb h
  cases b with
  | nil=>have:=(h x).1 (by simp);simp at this
  | cons y b =>
   rw [List.pairwise_cons] at ha hb
   have e:x=y:=by
    rcases List.mem_cons.1 ((h x).1 (by simp)) with e|h1
    ·exact e
    ·rcases List.mem_cons.1 ((h y).2 (by simp)) with e|h2
     ·exact e.symm
     ·have a1:=hb.1 x h1
      have a2:=ha.1 y h2
      omega
   subst e
   rw [ih b ha.2 hb.2 fun v=>?_]
   constructor
   ·intro hv
    rcases List.mem_cons.1 ((h v).1 (List.mem_cons_of_mem _ hv)) with e|h1
    ·have:=ha.1 v hv;omega
    ·exact h1
   ·intro hv
    rcases List.mem_cons.1 ((h v).2 (List.mem_cons_of_mem _ hv)) with e|h1
    ·have:=hb.1 v hv;omega
    ·exact h1
theorem set8 {n:Nat} (h8:n≤8) (p:Nat→Bool):∃S:Int,0≤S∧S<2^n∧∀i,i<n→keep S i = !p i:=by
 have key:∀b0 b1 b2 b3 b4 b5 b6 b7:Bool,∀S:Int,S=(cond b0 1 0)+(cond b1 2 0)+(cond b2 4 0)+(cond b3 8 0)+(cond b4 16 0)+(cond b5 32 0)+(cond b6 64 0)+(cond b7 128 0)→keep S 0 = !b0∧keep S 1 = !b1∧keep S 2 = !b2∧keep S 3 = !b3∧keep S 4 = !b4∧keep S 5 = !b5∧keep S 6 = !b6∧keep S 7 = !b7:=by
  intro b0 b1 b2 b3 b4 b5 b6 b7 S h
  subst h
  revert b0 b1 b2 b3 b4 b5 b6 b7
  decide +kernel
 obtain ⟨S,hS⟩:∃S:Int,S=(cond (p 0&&decide (0<n)) 1 0)+(cond (p 1&&decide (1<n)) 2 0)+(cond (p 2&&decide (2<n)) 4 0)+(cond (p 3&&decide (3<n)) 8 0)+(cond (p 4&&decide (4<n)) 16 0)+(cond (p 5&&decide (5<n)) 32 0)+(cond (p 6&&decide (6<n)) 64 0)+(cond (p 7&&decide (7<n)) 128 0):=⟨_,rfl⟩
 have k:=key (p 0&&decide (0<n)) (p 1&&decide (1<n)) (p 2&&decide (2<n)) (p 3&&decide (3<n)) (p 4&&decide (4<n)) (p 5&&decide (5<n)) (p 6&&decide (6<n)) (p 7&&decide (7<n)) S hS
 have bnd:∀(b:Bool) (v:Int),0≤v→(0≤cond b v 0∧cond b v 0≤v):=fun b v hv=>by cases b<;>simp [hv]
 have hz:∀(j:Nat) (v:Int),¬j<n→cond (p j&&decide (j<n)) v 0=0:=fun j v h=>by rw [decide_eq_false h,Bool.and_false];rfl
 refine ⟨S,?_,?_,fun i hi=>?_⟩
 rotate_left 2
 ·have e:∀j,j<n→(p j&&decide (j<n))=p j:=fun j h=>by rw [decide_eq_true h,Bool.and_true]
  have:i=0∨i=1∨i=2∨i=3∨i=4∨i=5∨i=6∨i=7:=by omega
  rcases this with h|h|h|h|h|h|h|h<;>subst h
  ·rw [k.1,e _ hi]
  ·rw [k.2.1,e _ hi]
  ·rw [k.2.2.1,e _ hi]
  ·rw [k.2.2.2.1,e _ hi]
  ·rw [k.2.2.2.2.1,e _ hi]
  ·rw [k.2.2.2.2.2.1,e _ hi]
  ·rw [k.2.2.2.2.2.2.1,e _ hi]
  ·rw [k.2.2.2.2.2.2.2,e _ hi]
 ·have b0:=bnd (p 0&&decide (0<n)) 1 (by omega)
  have b1:=bnd (p 1&&decide (1<n)) 2 (by omega)
  have b2:=bnd (p 2&&decide (2<n)) 4 (by omega)
  have b3:=bnd (p 3&&decide (3<n)) 8 (by omega)
  have b4:=bnd (p 4&&decide (4<n)) 16 (by omega)
  have b5:=bnd (p 5&&decide (5<n)) 32 (by omega)
  have b6:=bnd (p 6&&decide (6<n)) 64 (by omega)
  have b7:=bnd (p 7&&decide (7<n)) 128 (by omega)
  omega
 ·have b0:=bnd (p 0&&decide (0<n)) 1 (by omega)
  have b1:=bnd (p 1&&decide (1<n)) 2 (by omega)
  have b2:=bnd (p 2&&decide (2<n)) 4 (by omega)
  have b3:=bnd (p 3&&decide (3<n)) 8 (by omega)
  have b4:=bnd (p 4&&decide (4<n)) 16 (by omega)
  have b5:=bnd (p 5&&decide (5<n)) 32 (by omega)
  have b6:=bnd (p 6&&decide (6<n)) 64 (by omega)
  have b7:=bnd (p 7&&decide (7<n)) 128 (by omega)
  have z0:=hz 0 1
  have z1:=hz 1 2
  have z2:=hz 2 4
  have z3:=hz 3 8
  have z4:=hz 4 16
  have z5:=hz 5 32
  have z6:=hz 6 64
  have z7:=hz 7 128
  have:n=0∨n=1∨n=2∨n=3∨n=4∨n=5∨n=6∨n=7∨n=8:=by omega
  rcases this with h|h|h|h|h|h|h|h|h<;>subst h<;>omega

theorem asc_bits {m:Nat} (h8:m≤8) {l:List Int} (h:Asc m l):∃S:Int,0≤S∧S<2^m∧bitsL m S=l:=by
 obtain ⟨S,a1,a2,a3⟩:=set8 h8 (fun i=>decide ((i:Int)∈l))
 refine ⟨S,a1,a2,asc_eq _ _ (bits_asc m S).1 h.1 fun v=>?_⟩
 constructor
 ·intro hv
  have hb:=(bits_asc m S).2 v hv
  obtain ⟨i,rfl⟩:∃i:Nat,v=(i:Int):=⟨v.toNat,by omega⟩
  have hk:=(mem_bits (by omega)).1 hv
  rw [a3 i (by omega)] at hk
  simpa using hk
 ·intro hv
  have hb:=h.2 v hv
  obtain ⟨i,rfl⟩:∃i:Nat,v=(i:Int):=⟨v.toNat,by omega⟩
  refine (mem_bits (by omega)).2 ?_
  rw [a3 i (by omega)]
  simpa using hv
theorem bit_one {S:Int} (h0:0≤S) (h1:S<256) {i:Nat} (hi:i<8):((Go.bits .and .i64 (S / 2^min i 64) 1)==1) = !keep S i:=by
 have key:∀S:Fin 256,∀i:Fin 8,((Go.bits .and .i64 ((S.val:Int) / 2^min i.val 64) 1)==1) = !keep (S.val:Int) i.val:=by decide +kernel
 have:=key ⟨S.toNat,by omega⟩ ⟨i,hi⟩
 simp only at this
 rw [show ((S.toNat:Nat):Int)=S by omega] at this
 exact this
theorem pow_le {m:Nat} (h:m≤8):w64 ((1:Int)*2^min (m:Int).toNat 64)=2^m∧(1:Int)≤2^m∧(2:Int)^m≤256:=by
 have:m=0∨m=1∨m=2∨m=3∨m=4∨m=5∨m=6∨m=7∨m=8:=by omega
 rcases this with h|h|h|h|h|h|h|h|h<;>subst h<;>decide
theorem e72 {m:Nat} (hm:m≤8) {S:Int} (h0:0≤S) (h1:S<2^m):F72 (IntKind.u64.wrap S)=some ((bitsL m S).length:Int):=by
 have key:∀m:Fin 9,∀S:Fin 256,S.val<2^m.val→F72 (IntKind.u64.wrap (S.val:Int))=some ((bitsN m.val (S.val:Int)).length:Int):=by decide +kernel
 have hp:=pow_le hm
 have:=key ⟨m,by omega⟩ ⟨S.toNat,by omega⟩ (by
  simp only
  have e:((2^m:Nat):Int)=(2:Int)^m:=by rw [Int.natCast_pow];rfl
  omega)
 simp only at this
 rw [show ((S.toNat:Nat):Int)=S by omega] at this
 rw [this]
 unfold bitsL
 rw [List.length_map]
end Go.Proofs.Ytallnifoeahpiaa
namespace Go.Proofs.Ytallnifoeahpiaa
open Go Go.Sx
set_option linter.all false


def Feas (c:Cs) (l:List Int):Prop:=∃x:List Int,x.length=c.Sheets.length∧(∀i,i<c.Sheets.length → -c.Sheets[i]!.Most≤x[i]! ∧ x[i]! ≤ c.Sheets[i]!.Most) ∧
 ∀i:Nat,i<c.Edges.length→(i:Int) ∉ l→lo c i≤x[c.Edges[i]!.A.toNat]! - x[c.Edges[i]!.B.toNat]! ∧ x[c.Edges[i]!.A.toNat]! - x[c.Edges[i]!.B.toNat]! ≤ hi c i
theorem feas_bits {c:Cs} {S:Int}:Feas c (bitsL c.Edges.length S)↔∃x:List Int,x.length=c.Sheets.length∧Fe c S x:=by
 have hk:∀i:Nat,i<c.Edges.length→((i:Int) ∉ bitsL c.Edges.length S↔keep S i=true):=fun i hi=>by
  rw [mem_bits hi];simp
 constructor
 ·rintro ⟨x,h1,h2,h3⟩
  exact ⟨x,h1,h2,fun i hi hk'=>h3 i hi ((hk i hi).2 hk')⟩
 ·rintro ⟨x,h1,h2⟩
  exact ⟨x,h1,h2.box,fun i hi hn=>h2.eg i hi ((hk i hi).1 hn)⟩

def WithoutOk (c:Cs) (r:List Int×Int):Prop :=
 ((chk c).2.2≠0∧r=([],(chk c).2.2)) ∨
 ((chk c).2.2=0∧r.2=0∧Asc c.Edges.length r.1∧Feas c r.1∧∀l,Asc c.Edges.length l→Feas c l→Bet r.1 l)
theorem WithoutOk.eq {c:Cs} {r q:List Int×Int} (h:WithoutOk c r) (g:WithoutOk c q):r=q:=by
 rcases h with ⟨h1,h2⟩|⟨h1,h2,h3,h4,h5⟩<;>rcases g with ⟨g1,g2⟩|⟨g1,g2,g3,g4,g5⟩<;>first|exact absurd h1 g1|exact absurd g1 h1|skip
 ·rw [h2,g2]
 ·have e:=(h5 _ g3 g4).eq (g5 _ h3 h4)
  obtain ⟨rl,re⟩:=r
  obtain ⟨ql,qe⟩:=q
  simp only at *
  rw [e,h2,g2]

def WInv (c:Cs) (s:Int) (many:Int) (l:List Int):Prop :=
 (many=c.Edges.length+1∧l=[]∧∀S,0≤S→S<s→¬Feas c (bitsL c.Edges.length S)) ∨
 (many=l.length∧Asc c.Edges.length l∧Feas c l∧∀S,0≤S→S<s→Feas c (bitsL c.Edges.length S)→Bet l (bitsL c.Edges.length S))
theorem e32L2 {k:Nat} {c:Cs} (hk:10≤k) (hv:Val c) {q:Int×Int×List Int} (h0:0≤q.2.1) (h1:q.2.1<256):F32L2 c q k (0,[])=some (.inr (bitsL c.Edges.length q.2.1)):=by
 have hm:=hv.edges
 have hlen:∀i,(bitsL i q.2.1).length≤i:=fun i=>by
  unfold bitsL bitsN
  rw [List.length_map]
  exact Nat.le_trans (List.length_filter_le _ _) (by simp)
 have h:=for_fold (l:=c.Edges) (L:=F32L2 c q) (β:=List Int×Int) (σ:=List Int) (fun i s=>((i:Int),s)) (fun s=>s) (fun i _ s=>if keep q.2.1 i then s else s++[(i:Int)]) (fun i s=>s=bitsL i q.2.1)
  (fun i s hi hp=>by rw [hp,bitsL_succ])
  (fun n i s hi hp=>by
   have hl:=hlen i
   rw [←hp] at hl
   rw [F32L2]
   dsimp only
   rw [if_pos (by simp;omega),need_true (by omega),Option.bind_some,Int.toNat_natCast,bit_one h0 h1 (by omega),w64_id (n:=(i:Int)+1) (by omega) (by omega)]
   cases hk:keep q.2.1 i with
   | true=>rw [if_neg (by simp),if_pos rfl];rfl
   | false=>rw [if_pos (by rfl),if_neg (by simp),need_true (by simp only [List.length_cons,List.length_nil];omega),Option.bind_some];rfl)
  (fun n s _=>by rw [F32L2,if_neg (by simp)]) k [] (by rfl) (by omega)
 have h2:=foldI_inv (l:=c.Edges) (fun i (_:Eg) (s:List Int)=>if keep q.2.1 i then s else s++[(i:Int)]) (fun j s=>s=bitsL j q.2.1) (fun i s hi hp=>by rw [hp,bitsL_succ]) [] rfl
 rw [show ((0:Int),([]:List Int))=(((0:Nat):Int),[]) from rfl,h,h2]
theorem e32L1 {k:Nat} {c:Cs} (hk:100≤k) (hv:Val c):∀(r:Nat) (s:Int) (g:Nat) (many:Int) (l:List Int),0≤s→s+r=2^c.Edges.length→r<g→WInv c s many l →
 ∃l' many',F32L1 k c (look0 c) g (many,s,l)=some (.inr l')∧WInv c (2^c.Edges.length) many' l':=by
 have hm:=hv.edges
 have hs:=hv.sheets
 have hp:=pow_le hm
 intro r
 induction r with
 | zero =>
  intro s g many l h0 hr hg hw
  obtain ⟨g,rfl⟩:∃q,g=q+1:=⟨g-1,by omega⟩
  refine ⟨l,many,?_,by rw [show (2:Int)^c.Edges.length=s by omega];exact hw⟩
  rw [F32L1]
  dsimp only
  rw [hp.1,if_neg (by rw [decide_eq_false (by omega)];simp)]
 | succ r ih =>
  intro s g many l h0 hr hg hw
  obtain ⟨g,rfl⟩:∃q,g=q+1:=⟨g-1,by omega⟩
  have hbl:(bitsL c.Edges.length s).length≤c.Edges.length:=by
   unfold bitsL bitsN
   rw [List.length_map]
   exact Nat.le_trans (List.length_filter_le _ _) (by simp)
  rw [F32L1]
  dsimp only
  rw [hp.1,if_pos (decide_eq_true (by omega)),e72 hm h0 (by omega),Option.bind_some,w64_id (n:=s+1) (by omega) (by omega)]
  have hskip:(Feas c (bitsL c.Edges.length s)→many=l.length∧Bet l (bitsL c.Edges.length s))→WInv c (s+1) many l:=fun hno=>by
   rcases hw with ⟨w1,w2,w3⟩|⟨w1,w2,w3,w4⟩
   ·refine .inl ⟨w1,w2,fun S a b hf=>?_⟩
    by_cases e:S=s
    ·subst e
     have:=(hno hf).1
     rw [w2] at this
     simp at this
     omega
    ·exact w3 S a (by omega) hf
   ·refine .inr ⟨w1,w2,w3,fun S a b hf=>?_⟩
    by_cases e:S=s
    ·subst e;exact (hno hf).2
    ·exact w4 S a (by omega) hf
  by_cases c1:((bitsL c.Edges.length s).length:Int)>many
  ·rw [if_pos (decide_eq_true c1)]
   refine ih (s+1) g many l (by omega) (by omega) (by omega) (hskip fun hf=>?_)
   rcases hw with ⟨w1,_,_⟩|⟨w1,w2,w3,w4⟩
   ·omega
   ·exact ⟨w1,.inl (by omega)⟩
  ·rw [if_neg (by rw [decide_eq_false c1];simp),e32L2 (by omega) hv h0 (by dsimp only;omega),Option.bind_some]
   simp only [outK]
   have hcmp:∀b,b=(cond (((bitsL c.Edges.length s).length:Int)==many) (decide (cmpL (bitsL c.Edges.length s) l≥0)) false) →
    (optG (((bitsL c.Edges.length s).length:Int)==many) (F73v1 k (bitsL c.Edges.length s) l)).bind (fun x20=>if (cond (((bitsL c.Edges.length s).length:Int)==many) (decide (x20≥0)) false)=true then F32L1 k c (look0 c) g (many,s+1,l) else (F64 k (c.Sheets.length:Int) s c.Tol c.Sheets c.Edges (wl c) []).bind fun x22=>if (Nat.beq x22.2.length 0)=true then (F32L1 k c (look0 c) g (((bitsL c.Edges.length s).length:Int),s+1,bitsL c.Edges.length s)) else (F32L1 k c (look0 c) g (many,s+1,l))) =
    if b=true then F32L1 k c (look0 c) g (many,s+1,l) else (F64 k (c.Sheets.length:Int) s c.Tol c.Sheets c.Edges (wl c) []).bind fun x22=>if (Nat.beq x22.2.length 0)=true then (F32L1 k c (look0 c) g (((bitsL c.Edges.length s).length:Int),s+1,bitsL c.Edges.length s)) else (F32L1 k c (look0 c) g (many,s+1,l)):=by
    intro b hb
    subst hb
    cases (((bitsL c.Edges.length s).length:Int)==many) with
    | true=>rw [optG_true,e73 (by omega) (by omega),Option.bind_some]
    | false=>rw [optG_false,Option.bind_some];rfl
   have hgo:=hcmp _ rfl
   refine (show ∃l' many',_=some (Sum.inr l')∧WInv c (2^c.Edges.length) many' l' from ?_)
   simp only [look0] at hgo ⊢
   rw [hgo]
   by_cases c2:((bitsL c.Edges.length s).length:Int)=many∧cmpL (bitsL c.Edges.length s) l≥0
   ·rw [if_pos (by rw [show (((bitsL c.Edges.length s).length:Int)==many)=true by simpa using c2.1,decide_eq_true c2.2];rfl)]
    refine ih (s+1) g many l (by omega) (by omega) (by omega) (hskip fun hf=>?_)
    rcases hw with ⟨w1,_,_⟩|⟨w1,w2,w3,w4⟩
    ·omega
    ·refine ⟨w1,.inr ⟨by omega,?_⟩⟩
     rw [cmpL_flip];omega
   ·rw [if_neg (by
     intro e
     cases hb:(((bitsL c.Edges.length s).length:Int)==many) with
     | true=>rw [hb] at e;exact c2 ⟨by simpa using hb,by simpa using e⟩
     | false=>rw [hb] at e;simp at e)]
    have hbet:(many=l.length∧Asc c.Edges.length l∧Feas c l∧∀S,0≤S→S<s→Feas c (bitsL c.Edges.length S)→Bet l (bitsL c.Edges.length S))→Bet (bitsL c.Edges.length s) l:=fun hw=>by
     by_cases e:((bitsL c.Edges.length s).length:Int)=many
     ·have c3:¬cmpL (bitsL c.Edges.length s) l≥0:=fun h=>c2 ⟨e,h⟩
      exact .inr ⟨by omega,by omega⟩
     ·exact .inl (by omega)
    rcases tight (k:=k) (by omega) hv s c.Sheets.length (Nat.le_refl _) c.Tol [] with ⟨d,d1,d2,d3,d4,d5⟩|⟨rl,b,d1,d2,_,d3⟩
    ·rw [d1,Option.bind_some]
     simp only
     rw [if_pos (by rfl)]
     have hf:Feas c (bitsL c.Edges.length s):=feas_bits.2 ⟨_,chOf_len,d4⟩
     refine ih (s+1) g _ _ (by omega) (by omega) (by omega) (.inr ⟨rfl,bits_asc _ _,hf,fun S a b hfs=>?_⟩)
     by_cases e:S=s
     ·subst e;exact .inr ⟨rfl,by have:=cmpL_flip (bitsL c.Edges.length S) (bitsL c.Edges.length S);omega⟩
     ·rcases hw with ⟨_,_,w3⟩|hw
      ·exact absurd hfs (w3 S a (by omega))
      ·exact (hbet hw).trans (hw.2.2.2 S a (by omega) hfs)
    ·rw [d1,Option.bind_some]
     simp only
     have hne:rl.length≠0:=by have:=d2.pos;omega
     rw [if_neg (by cases hr:rl.length with
      | zero=>exact absurd hr hne
      | succ n=>simp)]
     refine ih (s+1) g many l (by omega) (by omega) (by omega) (hskip fun hf=>?_)
     obtain ⟨x,x1,x2⟩:=feas_bits.1 hf
     exact absurd ⟨x2,get_end (by omega)⟩ (d3 x)
theorem feas_all {c:Cs} (hv:Val c):∃S:Int,0≤S∧S<2^c.Edges.length∧Feas c (bitsL c.Edges.length S):=by
 obtain ⟨S,a1,a2,a3⟩:=set8 hv.edges (fun _=>true)
 refine ⟨S,a1,a2,List.replicate c.Sheets.length 0,by simp,fun i hi=>?_,fun i hi hn=>?_⟩
 ·rw [get_rep hi]
  have:=most_ok hv hi
  omega
 ·exact absurd ((mem_bits hi).2 (a3 i hi)) hn
theorem e32 {k:Nat} (hk:300≤k) (c:Cs):∃r,F32 k c=some r∧WithoutOk c r:=by
 unfold F32
 by_cases h:(chk c).2.2=0
 ·have hv:=chk_val (chk_err h)
  have hm:=hv.edges
  have hp:=pow_le hm
  rw [e57 (by omega) h,Option.bind_some]
  simp only [outK]
  rw [if_neg (by simp),need_true (by omega),Option.bind_some,w64_id (by omega) (by omega)]
  obtain ⟨l,many,h1,h2⟩:=e32L1 (k:=k) (by omega) hv ((2:Int)^c.Edges.length).toNat 0 k (c.Edges.length+1) [] (Int.le_refl _) (by omega) (by omega) (.inl ⟨rfl,rfl,fun S a b=>by omega⟩)
  rw [h1,Option.bind_some]
  simp only
  refine ⟨_,rfl,.inr ⟨h,rfl,?_⟩⟩
  obtain ⟨S,a1,a2,a3⟩:=feas_all hv
  rcases h2 with ⟨_,_,w3⟩|⟨_,w2,w3,w4⟩
  ·exact absurd a3 (w3 S a1 a2)
  ·refine ⟨w2,w3,fun l' hl hf=>?_⟩
   obtain ⟨T,b1,b2,rfl⟩:=asc_bits hm hl
   exact w4 T b1 b2 hf
 ·rw [e57_err (by omega) h,Option.bind_some]
  simp only [outK]
  rw [if_pos (by simpa using h)]
  exact ⟨_,rfl,.inl ⟨h,rfl⟩⟩
end Go.Proofs.Ytallnifoeahpiaa
