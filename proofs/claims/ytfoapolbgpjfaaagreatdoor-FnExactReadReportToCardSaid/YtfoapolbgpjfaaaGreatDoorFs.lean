/- Fs: merged out of KXm. -/
import Derived.Test.YtfoapolbgpjfaaaGreatDoorPWw
import Derived.Test.YtfoapolbgpjfaaaGreatDoorCa
import Derived.Test.YtfoapolbgpjfaaaGreatDoorAc
import Derived.Test.YtfoapolbgpjfaaaGreatDoorBa
set_option linter.unusedSectionVars false
set_option linter.unusedSimpArgs false
set_option linter.unusedVariables false
set_option maxRecDepth 100000
section
namespace Go.Proofs
open Go.PW Go.KP
attribute [local simp] RV.cells RV.one PV.cells PV.solid PV.one N3 b8 O9 P0 RV.ofCells elems PV.killL
variable [GF]
theorem b2l (k:Nat) (hk:k < 1099511627776):z6 Tryz.prog 63 [.val (num k)] (.ret (.val (tx (lmk k))) []) []:=by
 refine K4 mixed ok63 rfl (fun _=>rfl) ?_
 unfold ir63
 rw [d9]
 unfold lmk
 by_cases h0:k=0
 · subst h0
   simp [w8,J8,P1,b9,q8,num,tx,bs]
 · have h0':¬ (k:Int)≤0:=by omega
   rw [if_neg h0]
   simp [w8,J8,P1,b9,q8,num,h0',h0]
   refine S1 (X:=Nat×Tx) (fun x=>⟨S7 [(0,.val (num x.1)),(3,.val (tx x.2))],S0 []⟩) (fun x=>x.1≤k∧x.2.length+x.1≤k∧b24 x.1 x.2=b24 k []) (fun x=>x.1) (k,[]) (Le.mk _ _ ?_ ?_) ⟨Nat.le_refl _,by simp,rfl⟩ ?_
   · simp [upd,num,tx,bs]
   · simp
   · rintro ⟨m,out⟩ ⟨hm,hlen,hF⟩
     simp only at hm hlen hF
     by_cases hz:m=0
     · subst hz
       rw [c1y] at hF
       subst hF
       have hlk:1+(b24 k []).length≤9223372036854775807:=by omega
       simp [num,tx,N7,P2,b7,hlk]
     · have hp:(0:Int) < (m:Int):=by omega
       have hp2:0 < m:=by omega
       rw [c38 hz] at hF
       have g6:(m:Int).tdiv 10=((m / 10:Nat):Int):=by rw [Int.tdiv_eq_ediv_of_nonneg (by omega)];omega
       have g7:(m:Int).tmod 10=((m % 10:Nat):Int):=by rw [Int.tmod_eq_emod_of_nonneg (by omega)];omega
       have ha:m / 10 < m:=Nat.div_lt_self (by omega) (by omega)
       have hb:m % 10 < 10:=Nat.mod_lt _ (by omega)
       have hl10:(UInt8.ofNat (48+m % 10) :: out).length+m / 10≤k:=by simp only [List.length_cons];omega
       have g8:IntKind.i64.wrap ((m / 10:Nat):Int)=((m / 10:Nat):Int):=wrap_i64 (by omega) (by omega)
       have g4:IntKind.i64.wrap (48+((m % 10:Nat):Int))=48+((m % 10:Nat):Int):=wrap_i64 (by omega) (by omega)
       have g5:IntKind.u8.wrap (48+((m % 10:Nat):Int))=48+((m % 10:Nat):Int):=a19 (by omega) (by omega)
       have g9:=c5l (m % 10)
       generalize m / 10=a at *
       generalize m % 10=b at *
       have hsz:1+out.length≤9223372036854775807:=by simp only [List.length_cons] at hl10;omega
       simp [w8,J8,P1,b9,q8,num,tx,hp,hp2,hz,g6,g7,g8,g4,g5,RV.isU8,g9,b7,P2]
       refine ⟨hsz,LoopNext.mk (a,UInt8.ofNat (48+b) :: out) ⟨by omega,hl10,hF⟩ ha (Le.mk _ _ ?_ ?_)⟩
       · simp [num,tx]
       · simp
end Go.Proofs
end
