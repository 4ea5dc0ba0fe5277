/- What functions of the seat compute. Printed by a program of mine. -/
import Derived.Test.YtkcgfceihpampaaGreatDoorP
import Derived.Test.YtkcgfceihpampaaGreatDoorDA
import Derived.Test.YtkcgfceihpampaaGreatDoorDT
namespace Go.Proofs.YtkcgfceihpampaaGreatDoor
open Go Go.Sx
set_option linter.unusedVariables false


def F118v1  (p_s:ByteArray):Option (ByteArray) :=
 some p_s


def F122  (is:Bool):Option (Unit) :=
 if (!is) then (none) else (some ())


def F184  (word:ByteArray):Option (Int) :=
 (F212 word).bind fun x1=>(F122 true).bind fun x2=>some x1


def F182  (i:Int) (b0x0:List ByteArray) (b2x0:Int) (a3:List ByteArray) (a4:List S_api_ShNote):Option (Int) :=
 (F122 (decide (i<(b0x0.length:Int)))).bind fun x1=>(idx b0x0 i).bind fun x2=>(F183 a3 x2).bind fun x3=>(F122 (decide (x3≥0))).bind fun x4=>some x3


def F119v1  (w:(List ByteArray)) (b0x0:Int) (a1:List ByteArray) (a2:List S_api_ShNote):Option (Int×(List ByteArray)×(List S_api_ShNote)) :=
 (idx w 0).bind fun x1=>if (x1==(⟨#[115,104,101,101,116]⟩:ByteArray)) then ((F122 ((w.length:Int)==2)).bind fun x3=>(idx w 1).bind fun x4=>(F184 x4).bind fun x5=>some (x5,a1,a2)) else (if (x1==(⟨#[112,111,105,110,116]⟩:ByteArray)) then ((F122 ((w.length:Int)==2)).bind fun x7=>(idx w 1).bind fun x8=>(need ((a1.length+([x8]:List ByteArray).length)*16≤140737488355328∧a1.length+([x8]:List ByteArray).length≤9223372036854775807)).bind fun x9=>some (b0x0,(a1++([x8]:List ByteArray)),a2)) else (if (x1==(⟨#[108,97,107,101]⟩:ByteArray)) then ((F122 ((w.length:Int)==3)).bind fun x11=>(F182 1 w b0x0 a1 a2).bind fun x12=>(F182 2 w b0x0 a1 a2).bind fun x13=>(need ((a2.length+([(⟨3,x12,x13,(⟨0,0⟩:S_api_Span)⟩:S_api_ShNote)]:List S_api_ShNote).length)*40≤140737488355328∧a2.length+([(⟨3,x12,x13,(⟨0,0⟩:S_api_Span)⟩:S_api_ShNote)]:List S_api_ShNote).length≤9223372036854775807)).bind fun x14=>some (b0x0,a1,(a2++([(⟨3,x12,x13,(⟨0,0⟩:S_api_Span)⟩:S_api_ShNote)]:List S_api_ShNote)))) else ((if (x1==(⟨#[115,112,111,116]⟩:ByteArray)) then (some (.inr (x1==(⟨#[115,112,111,116]⟩:ByteArray)))) else (some (.inr (x1==(⟨#[99,111,110,116,111,117,114]⟩:ByteArray))))).bind fun o15=>outK o15 (fun (ro15:Int×(List ByteArray)×(List S_api_ShNote))=>some ro15) (fun (so15:Bool)=>if so15 then ((F122 ((w.length:Int)==4)).bind fun x18=>(F182 1 w b0x0 a1 a2).bind fun x19=>(idx w 2).bind fun x20=>(F184 x20).bind fun x21=>(idx w 3).bind fun x22=>(F184 x22).bind fun x23=>(idx w 0).bind fun x24=>if (x24==(⟨#[99,111,110,116,111,117,114]⟩:ByteArray)) then ((need ((a2.length+([(⟨2,x19,0,(⟨x21,x23⟩:S_api_Span)⟩:S_api_ShNote)]:List S_api_ShNote).length)*40≤140737488355328∧a2.length+([(⟨2,x19,0,(⟨x21,x23⟩:S_api_Span)⟩:S_api_ShNote)]:List S_api_ShNote).length≤9223372036854775807)).bind fun x26=>some (b0x0,a1,(a2++([(⟨2,x19,0,(⟨x21,x23⟩:S_api_Span)⟩:S_api_ShNote)]:List S_api_ShNote)))) else ((need ((a2.length+([(⟨1,x19,0,(⟨x21,x23⟩:S_api_Span)⟩:S_api_ShNote)]:List S_api_ShNote).length)*40≤140737488355328∧a2.length+([(⟨1,x19,0,(⟨x21,x23⟩:S_api_Span)⟩:S_api_ShNote)]:List S_api_ShNote).length≤9223372036854775807)).bind fun x27=>some (b0x0,a1,(a2++([(⟨1,x19,0,(⟨x21,x23⟩:S_api_Span)⟩:S_api_ShNote)]:List S_api_ShNote))))) else (if (x1==(⟨#[115,108,111,112,101]⟩:ByteArray)) then ((F122 ((w.length:Int)==5)).bind fun x29=>(F182 1 w b0x0 a1 a2).bind fun x30=>(F182 2 w b0x0 a1 a2).bind fun x31=>(idx w 3).bind fun x32=>(F184 x32).bind fun x33=>(idx w 4).bind fun x34=>(F184 x34).bind fun x35=>(need ((a2.length+([(⟨4,x30,x31,(⟨x33,x35⟩:S_api_Span)⟩:S_api_ShNote)]:List S_api_ShNote).length)*40≤140737488355328∧a2.length+([(⟨4,x30,x31,(⟨x33,x35⟩:S_api_Span)⟩:S_api_ShNote)]:List S_api_ShNote).length≤9223372036854775807)).bind fun x36=>some (b0x0,a1,(a2++([(⟨4,x30,x31,(⟨x33,x35⟩:S_api_Span)⟩:S_api_ShNote)]:List S_api_ShNote)))) else ((F122 false).bind fun x37=>some (b0x0,a1,a2)))))))


def F45rv1  (y1:ByteArray) (b1x0:Int) (a2:List ByteArray) (a3:List S_api_ShNote):Option (Int×(List ByteArray)×(List S_api_ShNote)) :=
 (F121 y1 (⟨#[10]⟩:ByteArray)).bind fun x1=>(F120 x1 (⟨#[32]⟩:ByteArray)).bind fun x2=>(F119v1 x2 b1x0 a2 a3).bind fun x3=>some (x3.1,x3.2.1,x3.2.2)


def F180v1L1  : Nat→(Int×(List ByteArray)×(List S_api_ShNote)×ByteArray)→Option ((Int×(List ByteArray)×(List S_api_ShNote)×ByteArray)⊕(Int×(List ByteArray)×(List S_api_ShNote)×ByteArray))
 | 0,_=>none
 | n3+1,c2=>if (decide ((c2.2.2.2.size:Int)>0)) then ((F181 c2.2.2.2 10).bind fun x5=>if (decide (x5≥0)) then ((need (0≤(0:Int)∧(0:Int)≤(w64 (x5+1))∧(w64 (x5+1))≤(c2.2.2.2.size:Int))).bind fun x7=>(need (0≤(w64 (x5+1))∧(w64 (x5+1))≤(c2.2.2.2.size:Int)∧(c2.2.2.2.size:Int)≤(c2.2.2.2.size:Int))).bind fun x8=>(F45rv1 (c2.2.2.2.extract (0:Int).toNat (w64 (x5+1)).toNat) c2.1 c2.2.1 c2.2.2.1).bind fun x9=>F180v1L1  n3 (x9.1,x9.2.1,x9.2.2,(c2.2.2.2.extract (w64 (x5+1)).toNat (c2.2.2.2.size:Int).toNat))) else ((F45rv1 c2.2.2.2 c2.1 c2.2.1 c2.2.2.1).bind fun x10=>F180v1L1  n3 (x10.1,x10.2.1,x10.2.2,(⟨#[]⟩:ByteArray)))) else (some (.inr (c2.1,c2.2.1,c2.2.2.1,c2.2.2.2)))

def F180v1 (fuel:Nat)  (b1x0:Int) (a2:List ByteArray) (a3:List S_api_ShNote) (b4x0:ByteArray):Option (Int×(List ByteArray)×(List S_api_ShNote)×ByteArray) :=
 (F180v1L1  fuel (b1x0,a2,a3,b4x0)).bind fun o1=>outK o1 (fun (ro1:Int×(List ByteArray)×(List S_api_ShNote)×ByteArray)=>some ro1) (fun (so1:Int×(List ByteArray)×(List S_api_ShNote)×ByteArray)=>some (so1.1,so1.2.1,so1.2.2.1,so1.2.2.2))


def F45v1 (fuel:Nat)  (p_t:ByteArray):Option (S_api_ShSheet×Int) :=
 if (decide ((p_t.size:Int)>1500)) then (some ((⟨0,([]:List ByteArray),([]:List S_api_ShNote)⟩:S_api_ShSheet),3)) else ((F118v1 p_t).bind fun x2=>(F180v1 fuel 0 ([]:List ByteArray) ([]:List S_api_ShNote) x2).bind fun x3=>(F65 fuel (⟨x3.1,x3.2.1,x3.2.2.1⟩:S_api_ShSheet)).bind fun x4=>(optG (x4.2.2==0) (F116 fuel (⟨x3.1,x3.2.1,x3.2.2.1⟩:S_api_ShSheet))).bind fun x5=>(F122 (cond (x4.2.2==0) (x5==p_t) false)).bind fun x6=>some ((⟨x3.1,x3.2.1,x3.2.2.1⟩:S_api_ShSheet),0))
end Go.Proofs.YtkcgfceihpampaaGreatDoor
