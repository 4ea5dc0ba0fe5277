/- What functions of the seat compute. Printed by a program of mine. -/
import Derived.Test.YtkcgfceihpampaaGreatDoorP
namespace Go.Proofs.YtkcgfceihpampaaGreatDoor
open Go Go.Sx
set_option linter.unusedVariables false


def F9L1 (p_r:S_api_CvRow):Nat→(Int×(List ByteArray)×(List S_api_ShNote))→Option ((S_api_ShSheet)⊕((List ByteArray)×(List S_api_ShNote)))
 | 0,_=>none
 | n5+1,c4=>if (decide (c4.1<(p_r.Points.length:Int))) then ((idx ([(⟨#[97]⟩:ByteArray),(⟨#[98]⟩:ByteArray),(⟨#[99]⟩:ByteArray),(⟨#[100]⟩:ByteArray),(⟨#[101]⟩:ByteArray),(⟨#[102]⟩:ByteArray)]:List ByteArray) c4.1).bind fun x7=>(need ((c4.2.1.length+([x7]:List ByteArray).length)*16≤140737488355328∧c4.2.1.length+([x7]:List ByteArray).length≤9223372036854775807)).bind fun x8=>(idx p_r.Points c4.1).bind fun x9=>(idx p_r.Points c4.1).bind fun x10=>(need ((c4.2.2.length+([(⟨1,c4.1,0,(⟨x9.Lo,x10.Hi⟩:S_api_Span)⟩:S_api_ShNote)]:List S_api_ShNote).length)*40≤140737488355328∧c4.2.2.length+([(⟨1,c4.1,0,(⟨x9.Lo,x10.Hi⟩:S_api_Span)⟩:S_api_ShNote)]:List S_api_ShNote).length≤9223372036854775807)).bind fun x11=>if (decide (c4.1>0)) then ((need (((c4.2.2++([(⟨1,c4.1,0,(⟨x9.Lo,x10.Hi⟩:S_api_Span)⟩:S_api_ShNote)]:List S_api_ShNote)).length+([(⟨4,c4.1,(w64 (c4.1-1)),(⟨(w64 (0-p_r.Steep)),p_r.Steep⟩:S_api_Span)⟩:S_api_ShNote)]:List S_api_ShNote).length)*40≤140737488355328∧(c4.2.2++([(⟨1,c4.1,0,(⟨x9.Lo,x10.Hi⟩:S_api_Span)⟩:S_api_ShNote)]:List S_api_ShNote)).length+([(⟨4,c4.1,(w64 (c4.1-1)),(⟨(w64 (0-p_r.Steep)),p_r.Steep⟩:S_api_Span)⟩:S_api_ShNote)]:List S_api_ShNote).length≤9223372036854775807)).bind fun x13=>F9L1 p_r n5 ((w64 (c4.1+1)),(c4.2.1++([x7]:List ByteArray)),((c4.2.2++([(⟨1,c4.1,0,(⟨x9.Lo,x10.Hi⟩:S_api_Span)⟩:S_api_ShNote)]:List S_api_ShNote))++([(⟨4,c4.1,(w64 (c4.1-1)),(⟨(w64 (0-p_r.Steep)),p_r.Steep⟩:S_api_Span)⟩:S_api_ShNote)]:List S_api_ShNote)))) else (F9L1 p_r n5 ((w64 (c4.1+1)),(c4.2.1++([x7]:List ByteArray)),(c4.2.2++([(⟨1,c4.1,0,(⟨x9.Lo,x10.Hi⟩:S_api_Span)⟩:S_api_ShNote)]:List S_api_ShNote))))) else (some (.inr (c4.2.1,c4.2.2)))

def F9 (fuel:Nat)  (p_r:S_api_CvRow):Option (S_api_ShSheet) :=
 (F9L1 p_r fuel (0,([]:List ByteArray),([]:List S_api_ShNote))).bind fun o3=>outK o3 (fun (ro3:S_api_ShSheet)=>some ro3) (fun (so3:(List ByteArray)×(List S_api_ShNote))=>some (⟨1,so3.1,so3.2⟩:S_api_ShSheet))
end Go.Proofs.YtkcgfceihpampaaGreatDoor
