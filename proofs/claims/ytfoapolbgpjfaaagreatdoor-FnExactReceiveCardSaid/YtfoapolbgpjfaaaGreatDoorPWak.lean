/- A call that hands back three new rows; ends of such functions (three slices in a box). -/
import Derived.Test.YtfoapolbgpjfaaaGreatDoorPWai
import Derived.Test.YtfoapolbgpjfaaaGreatDoorPWag
set_option linter.unusedSectionVars false
set_option linter.unusedSimpArgs false
set_option linter.unusedVariables false
set_option maxRecDepth 100000
namespace Go.PW
variable [GF]
open Go.RowKit
theorem a2g {P:Program} {st:St} {Ke:Kx (PV→St→Prop)} {kx:Kx (RV→St→Prop)} {d f ps as E1 z1 xs1 E2 z2 xs2 E3 z3 xs3} {p:PV} (ha:P5 st.mem ps=some as) (hb:boxIds ps=[]) (hl:p.ownLt 3=true) (hr:ps.all PV.noOwn=true∨(p.flat=true∧(∀ x∈xs1,x.flat)∧(∀ x∈xs2,x.flat)∧∀ x∈xs3,x.flat))
 (h:f9 P f as (.ret p [⟨E1,z1,xs1⟩,⟨E2,z2,xs2⟩,⟨E3,z3,xs3⟩]) [])
 (hK:Ke.k (p.shift (d5 d)) ⟨fun x=>(st.env x).kill (fun i=>d5 d≤i && i < d5 d+3),upd (d5 d) (.row E1 z1 xs1) (upd (d5 d+1) (.row E2 z2 xs2) (upd (d5 d+2) (.row E3 z3 xs3) fun x=>if (d5 d≤x && x < d5 d+3) then .dead else (st.mem x).kill (fun i=>d5 d≤i && i < d5 d+3)))⟩):KC P st d f ps (Ke:=Ke) (kx:=kx):=by
 unfold KC
 refine .inl ?_
 unfold a2z
 rw [ha]
 refine ⟨by rw [hb];exact List.nodup_nil,by rw [hb];rfl,_,_,h,by rw [hb];rfl,hl,?_,?_⟩
 · rcases hr with hr | ⟨h1,h2,h3,h4⟩
   · exact .inl hr
   · refine .inr ⟨h1,fun r hr x hx=>?_,fun b hb=>by cases hb⟩
     simp only [List.mem_cons,List.not_mem_nil,or_false] at hr
     rcases hr with rfl | rfl | rfl
     · exact h2 x hx
     · exact h3 x hx
     · exact h4 x hx
 · rw [hb]
   exact hK
def b73 (res:List Rs) (mk:Nat→Nat→Nat→PV) (r1 r2 r3:Row):PExit→St→Prop
 | .normal,st=>∃ st',Le st st'∧∃ a b c,a≠b∧a≠c∧b≠c∧P2 res st'=some (mk a b c)∧st'.mem a=.row r1.E r1.sz r1.xs∧st'.mem b=.row r2.E r2.sz r2.xs∧st'.mem c=.row r3.E r3.sz r3.xs
 | .ret,st=>∃ st',Le st st'∧∃ a b c,a≠b∧a≠c∧b≠c∧P2 res st'=some (mk a b c)∧st'.mem a=.row r1.E r1.sz r1.xs∧st'.mem b=.row r2.E r2.sz r2.xs∧st'.mem c=.row r3.E r3.sz r3.xs
 | _,_=>False
theorem a8e {P:Program} {f:Nat} {c:PC} {res:List Rs} {as:List AV} {mk:Nat→Nat→Nat→PV} {r1 r2 r3:Row} (hm:P.follows .mixedOrders=true) (hc:K5 P f c as.length res=true) (hb:a7 as=[]) (hmk:∀ ι:Nat→Nat,(mk 0 1 2).ren ι=mk (ι 0) (ι 1) (ι 2))
 (h:U6 P c (b9 as) (b73 res mk r1 r2 r3)):f9 P f as (.ret (mk 0 1 2) [r1,r2,r3]) []:=by
 refine a6a hm hc (S3 (fun e s hh=>?_) h)
 have key:(∃ st',Le s st'∧∃ a b c,a≠b∧a≠c∧b≠c∧P2 res st'=some (mk a b c)∧st'.mem a=.row r1.E r1.sz r1.xs∧st'.mem b=.row r2.E r2.sz r2.xs∧st'.mem c=.row r3.E r3.sz r3.xs)→∃ st',Le s st'∧b2h res (a7 as).length (.ret (mk 0 1 2) [r1,r2,r3]) [] .ret st':=fun ⟨s',hle,a,b,c,hab,hac,hbc,h1,h2,h3,h4⟩=>
  ⟨s',hle,(by rw [hb]),⟨⟨fun i=>if i=0 then a else if i=1 then b else c,by rw [hmk];exact h1,fun i j hi hj hij=>by
   simp at hi hj
   have hi':i=0∨i=1∨i=2:=by omega
   have hj':j=0∨j=1∨j=2:=by omega
   rcases hi' with rfl | rfl | rfl<;>rcases hj' with rfl | rfl | rfl<;>simp at hij ⊢
   · exact hab hij
   · exact hac hij
   · exact hab hij.symm
   · exact hbc hij
   · exact hac hij.symm
   · exact hbc hij.symm,fun i r hr=>by
   have hi:=(List.getElem?_eq_some_iff.1 hr).1
   simp at hi
   have hi':i=0∨i=1∨i=2:=by omega
   rcases hi' with rfl | rfl | rfl
   · simp at hr;subst hr;exact h2
   · simp at hr;subst hr;exact h3
   · simp at hr;subst hr;exact h4⟩,trivial⟩⟩
 cases e with
 | normal=>exact key hh
 | ret=>exact key hh
 | exit id=>exact hh.elim
 | pan r=>exact hh.elim
theorem b52 {E sz:Nat} {xs:List RV} {st:St} {a:Nat} (id:Nat) (h1:st.env a=.own id) (h3:st.mem id=.row E sz xs):∃ st',Le st st'∧∃ id,st'.env a=.own id∧st'.mem id=.row E sz xs:=
 ⟨st,Le.forget rfl (fun x=>.refl _),id,h1,h3⟩
theorem b53 {E sz:Nat} {st:St} {a:Nat} (z d:Nat) (hsz:0 < sz) (h9:V9 d) (h1:st.env a=.emp z):∃ st',Le st st'∧∃ id,st'.env a=.own id∧st'.mem id=.row E sz []:=by
 refine ⟨⟨upd a (.own d) fun x=>(st.env x).kill (· == d),upd d (.row E sz []) fun i=>(st.mem i).kill (· == d)⟩,Le.adopt d E sz h9 hsz (by simp [upd]) (fun x=>?_) (fun i hi=>.inl (by simp [upd,hi])),d,by simp [upd],by simp [upd]⟩
 by_cases hx:x=a
 · subst hx;rw [h1];simp [upd];exact .emp z
 · simp [upd,hx];exact .kill _
theorem a2f {E1 z1 E2 z2 E3 z3:Nat} {xs1 xs2 xs3:List RV} {st:St} {b c:Nat} {r:RV} (i j k:Nat) (hij:i≠j) (hik:i≠k) (hjk:j≠k) (hb:st.env b=.ptr b 0) (hm:st.mem b=.box [.own i,.own j,.own k]) (hc:st.env c=.val r) (h1:st.mem i=.row E1 z1 xs1) (h2:st.mem j=.row E2 z2 xs2) (h3:st.mem k=.row E3 z3 xs3) :
 b73 [.c b true 3,.t c] (fun x y z=>.tup [.agg [.own x,.own y,.own z],.val r]) ⟨E1,z1,xs1⟩ ⟨E2,z2,xs2⟩ ⟨E3,z3,xs3⟩ .ret st:=
 ⟨st,Le.forget rfl (fun x=>.refl _),i,j,k,hij,hik,hjk,by simp [P2,R6,X5,hb,hm,hc,N5,a6],h1,h2,h3⟩
theorem c10 {E1 E2 E3:Nat} {st:St} {b c:Nat} {r:RV} (z:Nat) (hbi:b < 500) (hcb:c≠b) (hb:st.env b=.ptr b 0) (hm:st.mem b=.box [.emp z,.emp z,.emp z]) (hc:st.env c=.val r) :
 b73 [.c b true 3,.t c] (fun x y z=>.tup [.agg [.own x,.own y,.own z],.val r]) ⟨E1,1,[]⟩ ⟨E2,1,[]⟩ ⟨E3,1,[]⟩ .ret st:=by
 have f1:V9 600:=.inl (by omega)
 have f2:V9 601:=.inl (by omega)
 have f3:V9 602:=.inl (by omega)
 have a1:=Le.adoptBox (st:=st) b 600 E1 1 [.emp z,.emp z,.emp z] [.own 600,.emp z,.emp z] (by omega) f1 (by omega) hm rfl (fun j hj=>by
  have:j=0∨j=1∨j=2:=by simp at hj;omega
  rcases this with rfl | rfl | rfl
  · exact .emp z
  · exact .kill (.emp z)
  · exact .kill (.emp z))
 have a2:=Le.adoptBox (st:=⟨fun x=>(st.env x).kill (· == 600),upd 600 (.row E1 1 []) (upd b (.box [.own 600,.emp z,.emp z]) fun i=>(st.mem i).kill (· == 600))⟩) b 601 E2 1 [.own 600,.emp z,.emp z] [.own 600,.own 601,.emp z] (by omega) f2 (by omega) (by simp [upd,show b≠600 by omega]) rfl (fun j hj=>by
  have:j=0∨j=1∨j=2:=by simp at hj;omega
  rcases this with rfl | rfl | rfl
  · exact .kill (.own 600)
  · exact .emp z
  · exact .kill (.emp z))
 have a3:=Le.adoptBox (st:=⟨fun x=>((st.env x).kill (· == 600)).kill (· == 601),upd 601 (.row E2 1 []) (upd b (.box [.own 600,.own 601,.emp z]) fun i=>(upd 600 (.row E1 1 []) (upd b (.box [.own 600,.emp z,.emp z]) fun i=>(st.mem i).kill (· == 600)) i).kill (· == 601))⟩) b 602 E3 1 [.own 600,.own 601,.emp z] [.own 600,.own 601,.own 602] (by omega) f3 (by omega) (by simp [upd,show b≠601 by omega]) rfl (fun j hj=>by
  have:j=0∨j=1∨j=2:=by simp at hj;omega
  rcases this with rfl | rfl | rfl
  · exact .kill (.own 600)
  · exact .kill (.own 601)
  · exact .emp z)
 refine ⟨_,(a1.trans a2).trans a3,600,601,602,by omega,by omega,by omega,?_,?_,?_,?_⟩
 · simp [P2,R6,X5,upd,hb,hc,N5,a6,PV.kill,show ¬ b=602 by omega,show ¬ b=601 by omega,show ¬ b=600 by omega]
 · have:600≠b:=by omega
   simp [upd,this,MObj.kill]
 · have:601≠b:=by omega
   simp [upd,this,MObj.kill]
 · simp [upd]
end Go.PW
