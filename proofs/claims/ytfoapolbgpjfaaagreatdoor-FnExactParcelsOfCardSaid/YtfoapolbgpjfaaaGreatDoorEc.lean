/- Ec: merged out of KIm. -/
import Derived.Test.YtfoapolbgpjfaaaGreatDoorCa
import Derived.Test.YtfoapolbgpjfaaaGreatDoorAc
import Derived.Test.YtfoapolbgpjfaaaGreatDoorBa
set_option linter.unusedSectionVars false
set_option linter.unusedSimpArgs false
set_option linter.unusedVariables false
set_option maxRecDepth 100000
section
namespace Go.Proofs
open Go.PW Go.KP
attribute [local simp] RV.cells RV.one PV.cells PV.solid PV.one J2 a6 N0 N1 RV.ofCells elems PV.killL
variable [GF]
theorem a77 (l:List Tx) (v:Tx) (hl:l.length < 1099511627776):n7 Tryz.prog 119 [.val (.list 1 (l.map tx)),.val (tx v)] (.ret (.val (num (a3o l fun x=>decide (x=v)))) []) []:=by
 refine J0 mixed ok119 rfl (fun _=>rfl) ?_
 unfold ir119
 rw [b7]
 simp [d3,x8,M5,a7,c8,num]
 refine O6 (X:=Nat) (fun i=>⟨P6 [(0,.val (.list 1 (l.map tx))),(1,.val (tx v)),(7,.val (num l.length)),(8,.val (num i))],P3 []⟩) (fun i=>i≤l.length∧∀ k (hk:k < i) (hk':k < l.length),l[k]≠v) (fun i=>l.length - i) 0 (Le.mk _ _ ?_ ?_) ?_ ?_
 · simp [upd,num]
 · simp
 · simp
 · rintro i ⟨hi,hne⟩
   simp [num]
   refine O7 (fun h1=>?_) (fun h1=>?_)
   · have e1:(l.map tx)[i]?.getD .nilptr=tx l[i]:=by simp [List.getElem?_eq_getElem h1]
     by_cases hv:v=l[i]
     · have hh:a3o l (fun x=>decide (x=v))=i:=a9q h1 (by simp [← hv]) (fun k hk=>by simp [hne k hk (by omega)])
       simp [num,h1,e1,tx,Q3,(eq_true hv:(v=l[i])=True)]
       rw [hh]
     · simp [num,h1,e1,tx,Q3,hv]
       refine LoopNext.mk (i+1) ⟨by omega,fun k hk hk'=>?_⟩ (by omega) (Le.mk _ _ ?_ ?_)
       · by_cases e:k=i
         · subst e;exact fun h=>hv h.symm
         · exact hne k (by omega) hk'
       · simp [num,tx];exact wrap_i64 (by omega) (by omega)
       · simp
   · have e:i=l.length:=by omega
     subst e
     have hh:a3o l (fun x=>decide (x=v))=-1:=a7f (fun k hk=>by simp [hne k hk hk])
     simp [num,hh]
theorem a35 (l:List Tx) (v:Tx) (hl:l.length < 1099511627776):n7 Tryz.prog 140 [.val (.list 1 (l.map tx)),.val (tx v)] (.ret (.val (.bool (decide (v∈l)))) []) []:=by
 refine J0 mixed ok140 rfl (fun _=>rfl) ?_
 unfold ir140
 rw [b7]
 simp [d3,x8,M5,a7,c8,num]
 refine n0 rfl rfl (.inl rfl) (a77 l v hl) ?_
 have hg:=b8n l (fun x=>decide (x=v))
 rw [Bool.eq_iff_iff] at hg
 simp only [decide_eq_true_eq,List.any_eq_true,exists_eq_right] at hg
 simp [num,hg]
end Go.Proofs
end
