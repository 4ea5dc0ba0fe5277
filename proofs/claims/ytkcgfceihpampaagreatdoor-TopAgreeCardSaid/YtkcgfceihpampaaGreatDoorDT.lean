/- What functions of the seat compute. Printed by a program of mine. -/
import Derived.Test.YtkcgfceihpampaaGreatDoorP
import Derived.Test.YtkcgfceihpampaaGreatDoorDA
namespace Go.Proofs.YtkcgfceihpampaaGreatDoor
open Go Go.Sx
set_option linter.unusedVariables false


def F174  (words:(List ByteArray)):Option ((List UInt8)) :=
 (F176 words (⟨#[32]⟩:ByteArray)).bind fun x1=>(need (x1.size+(⟨#[10]⟩:ByteArray).size≤9223372036854775807)).bind fun x2=>(F175 (x1++(⟨#[10]⟩:ByteArray))).bind fun x3=>some x3


def F174v1  (words:(List ByteArray)) (a1:List UInt8):Option ((List UInt8)) :=
 (F176 words (⟨#[32]⟩:ByteArray)).bind fun x1=>(need (x1.size+(⟨#[10]⟩:ByteArray).size≤9223372036854775807)).bind fun x2=>(F175v1 (x1++(⟨#[10]⟩:ByteArray)) a1).bind fun x3=>some x3


def F116L1 (p_s:S_api_ShSheet):Nat→(Int×(List UInt8))→Option ((ByteArray)⊕((List UInt8)))
 | 0,_=>none
 | n5+1,c4=>if (decide (c4.1<(p_s.Points.length:Int))) then ((idx p_s.Points c4.1).bind fun x7=>(F174v1 ([(⟨#[112,111,105,110,116]⟩:ByteArray),x7]:List ByteArray) c4.2).bind fun x8=>F116L1 p_s n5 ((w64 (c4.1+1)),x8)) else (some (.inr c4.2))

def F116L2 (p_s:S_api_ShSheet):Nat→(Int×(List UInt8))→Option ((ByteArray)⊕((List UInt8)))
 | 0,_=>none
 | n11+1,c10=>if (decide (c10.1<(p_s.Notes.length:Int))) then ((idx p_s.Notes c10.1).bind fun x13=>(F177 x13.By.Lo).bind fun x14=>(F177 x13.By.Hi).bind fun x15=>(F178 x13).bind fun x16=>if (x16.1==some 287) then ((idx p_s.Points x13.A).bind fun x18=>(F174v1 ([(⟨#[115,112,111,116]⟩:ByteArray),x18,x14,x15]:List ByteArray) c10.2).bind fun x19=>F116L2 p_s n11 ((w64 (c10.1+1)),x19)) else (if (x16.1==some 288) then ((idx p_s.Points x13.A).bind fun x21=>(F174v1 ([(⟨#[99,111,110,116,111,117,114]⟩:ByteArray),x21,x14,x15]:List ByteArray) c10.2).bind fun x22=>F116L2 p_s n11 ((w64 (c10.1+1)),x22)) else (if (x16.1==some 289) then ((idx p_s.Points x13.A).bind fun x24=>(idx p_s.Points x13.B).bind fun x25=>(F174v1 ([(⟨#[108,97,107,101]⟩:ByteArray),x24,x25]:List ByteArray) c10.2).bind fun x26=>F116L2 p_s n11 ((w64 (c10.1+1)),x26)) else (if (x16.1==some 290) then ((idx p_s.Points x13.A).bind fun x28=>(idx p_s.Points x13.B).bind fun x29=>(F174v1 ([(⟨#[115,108,111,112,101]⟩:ByteArray),x28,x29,x14,x15]:List ByteArray) c10.2).bind fun x30=>F116L2 p_s n11 ((w64 (c10.1+1)),x30)) else (F116L2 p_s n11 ((w64 (c10.1+1)),c10.2)))))) else (some (.inr c10.2))

def F116 (fuel:Nat)  (p_s:S_api_ShSheet):Option (ByteArray) :=
 (F177 p_s.Interval).bind fun x1=>(F174 ([(⟨#[115,104,101,101,116]⟩:ByteArray),x1]:List ByteArray)).bind fun x2=>(F116L1 p_s fuel (0,x2)).bind fun o3=>outK o3 (fun (ro3:ByteArray)=>some ro3) (fun (so3:(List UInt8))=>(F116L2 p_s fuel (0,so3)).bind fun o9=>outK o9 (fun (ro9:ByteArray)=>some ro9) (fun (so9:(List UInt8))=>(F179 so9).bind fun x31=>some x31))


def F44 (fuel:Nat)  (p_s:S_api_ShSheet):Option (ByteArray×Int) :=
 (F65 fuel p_s).bind fun x1=>if (x1.2.2 != 0) then (some ((⟨#[]⟩:ByteArray),x1.2.2)) else ((F116 fuel p_s).bind fun x3=>some (x3,0))
end Go.Proofs.YtkcgfceihpampaaGreatDoor
