/- Ec: merged out of KLc, KIn. -/
import Derived.Test.YtfoapolbgpjfaaaGreatDoorEa
import Derived.Shelf.Strings.IndexAnyAll
import Derived.Laws.Runes
import Derived.Laws.RangeAny
import Derived.Lib.QuoteLoop
import Derived.WalkMore
import Derived.Lib.OthersKept
import Derived.Deep.QuietTactic
import Derived.BigQuiet
import Derived.Deep.DeepBigQuietO
import Derived.Shelf.RegionOpenPlain
import Derived.Test.YtfoapolbgpjfaaaGreatDoorEb
import Derived.Test.YtfoapolbgpjfaaaGreatDoorCb
import Derived.Test.YtfoapolbgpjfaaaGreatDoorBa
set_option linter.unusedSectionVars false
set_option linter.unusedSimpArgs false
set_option linter.unusedVariables false
set_option maxRecDepth 100000
section
namespace Go.Proofs
open Go.Shelf Go.RowKit Go.Lib
variable {P:Program} {ρ:Ren}
open Go.PW Go.KP
variable [GH]
end Go.Proofs
end
section
namespace Go.Proofs
open Go.PW Go.KP
attribute [local simp] RV.cells RV.one PV.cells PV.solid PV.one o9 d9 l4 l0 RV.ofCells elems PV.killL
variable [GH]
theorem b83 (t:Tx) (ht:t.length < 1099511627776):f9 Tryz.prog 89 [.val (tx t)] (.ret (.val (.bool (R3 t))) []) []:=by
 refine f8 mixed ok89 rfl (fun _=>rfl) ?_
 unfold ir89
 rw [d8]
 have hmin:(if (25:Int) < (t.length:Int) then (25:Int) else (t.length:Int))=((min t.length 25:Nat):Int):=by split<;>omega
 simp [f7,j4,k9,d7,f5,tx,b7,hmin]
 refine y8 (X:=Nat) (fun i=>⟨D2 [(0,.val (tx t)),(6,.val (num ((min t.length 25:Nat):Int))),(7,.val (num i))],D0 []⟩) (fun i=>i≤min t.length 25∧X3 m0 Y6 (t.take i)=true) (fun i=>min t.length 25 - i) 0 (Le.mk _ _ ?_ ?_) ?_ ?_
 · simp [upd,tx,num]
 · simp
 · simp [X3]
 · rintro i ⟨hi,hall⟩
   generalize hm:min t.length 25=m at *
   simp [num]
   refine j7 (fun h3'=>?_) (fun h3'=>?_)
   · have h3:i < t.length:=by omega
     have hstep:=a5l (p:=m0) (q:=Y6) (fun _ h=>a3d h) t i h3
     rw [hall,Bool.true_and] at hstep
     have a19:=a4f (p:=m0) (q:=Y6) t i h3
     have hres:(if i=0 then m0 t[i] else Y6 t[i])=false→R3 t=false:=fun h=>by unfold R3;rw [a19 h,Bool.and_false]
     have e3:((t[i].toNat:Int)=45)↔t[i].toNat=45:=by omega
     simp [tx,num,b7,f6,h3]
     refine b8 rfl rfl (.inl rfl) (a6d t[i]) ?_
     cases hlow:m0 t[i] with
     | true=>
      simp
      refine LoopNext.mk (i+1) ⟨by omega,by rw [hstep];split;exact hlow;exact a3d hlow⟩ (by omega) (Le.mk _ _ ?_ ?_)
      · simp [tx,num];exact wrap_i64 (by omega) (by omega)
      · simp
     | false=>
      by_cases h45:t[i].toNat=45
      · by_cases h0:i=0
        · have hr:=hres (by rw [if_pos h0];exact hlow)
          simp [tx,num,b7,f6,h3,e3,h45,(eq_true h0:(i=0)=True),hr]
        · simp [tx,num,b7,f6,h3,e3,h45,h0]
          refine LoopNext.mk (i+1) ⟨by omega,by rw [hstep,if_neg h0];simp [Y6,h45]⟩ (by omega) (Le.mk _ _ ?_ ?_)
          · simp [tx,num];exact wrap_i64 (by omega) (by omega)
          · simp
      · have hr:=hres (by
         split
         · exact hlow
         · simp [Y6,hlow,h45])
        simp [tx,num,b7,f6,h3,e3,h45,hr]
   · have e:i=m:=by omega
     subst e
     simp [tx,b7]
     refine b8 rfl rfl (.inl rfl) (a1d t.length 1 24) ?_
     by_cases hlen:1≤t.length∧t.length≤24
     · rw [show decide ((1:Int)≤t.length∧(t.length:Int)≤24)=true from decide_eq_true (by omega)]
       have he:t.take i=t:=List.take_of_length_le (by omega)
       rw [he] at hall
       have:R3 t=true:=by unfold R3;rw [hall,decide_eq_true hlen];rfl
       simp [this]
     · rw [show decide ((1:Int)≤t.length∧(t.length:Int)≤24)=false from decide_eq_false (by omega)]
       have:R3 t=false:=by unfold R3;rw [decide_eq_false hlen];rfl
       simp [this]
structure MS (st:St) (rt:Tx) (acc:List Tx) (rules:List LRule):Prop where
 e1:st.env 1=.ptr 1 0
 e2:st.env 2=.ptr 2 0
 m2:st.mem 2=.box [.val (tx []),.emp 1,.emp 2]
 m1:st.mem 1=.box [.val (tx rt),b8b 1 55 acc,.val (.list 2 (rules.map a5u))]
 m55:acc≠[]→st.mem 55=.row 9 1 (acc.map tx)
end Go.Proofs
end
