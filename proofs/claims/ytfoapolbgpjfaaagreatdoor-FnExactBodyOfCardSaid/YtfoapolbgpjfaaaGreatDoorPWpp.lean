/- Regions in any order, evaluated in one order: pure operations ahead of time, what they yield held against what comes between. -/
import Derived.Test.YtfoapolbgpjfaaaGreatDoorPWp
set_option linter.unusedSectionVars false
set_option linter.unusedSimpArgs false
set_option linter.unusedVariables false
namespace Go.PW
variable [GF]
open Go.RowKit
def Q8 (S:Nat→Bool) (st:St):St:=⟨fun x=>if S x then .undef else st.env x,st.mem⟩
theorem v6 (S:Nat→Bool) (st:St):(Q8 S st).mem=st.mem:=rfl
theorem b50 {S:Nat→Bool} {st:St} {x:Opd} (h:∀ s,x=.t s→S s=false):ev (Q8 S st) x=ev st x:=by
 cases x with
 | t s=>simp only [ev,Q8];rw [h s rfl];rfl
 | k p=>rfl
theorem a8g {S:Nat→Bool} {st:St} {xs:List Opd} (h:∀ x∈xs,∀ s,x=.t s→S s=false):Agree st (Q8 S st) xs:=⟨rfl,fun x hx=>b50 (h x hx)⟩
theorem L4 (S:Nat→Bool) (st:St) (d:Nat→Bool) (M:Nat→MObj):(⟨fun x=>((Q8 S st).env x).kill d,M⟩:St)=Q8 S ⟨fun x=>(st.env x).kill d,M⟩:=by
 simp only [Q8,St.mk.injEq,and_true]
 funext x
 by_cases h:S x=true<;>simp [h,PV.kill]
theorem Y5 (S:Nat→Bool) (st:St) (M:Nat→MObj):(⟨(Q8 S st).env,M⟩:St)=Q8 S ⟨st.env,M⟩:=rfl
theorem a56 {st st':St} {xs:List Opd} (h:∀ x∈xs,ev st' x=ev st x):xs.map (ev st')=xs.map (ev st):=List.map_congr_left h
theorem a4y {S:Nat→Bool} {P:Program} {st:St} {d f:Nat} {ps:List PV} {K:PV→St→Prop} {kx:RV→St→Prop} (h:a3o P st d f ps K kx) :
 a3o P (Q8 S st) d f ps (fun p s=>∃ s2,s=Q8 S s2∧K p s2) (fun r s=>∃ s2,s=Q8 S s2∧kx r s2):=by
 rcases h with h | h
 · refine .inl ?_
   unfold a4z at h ⊢
   rw [v6]
   split at h
   · exact h
   · rename_i as e
     obtain ⟨h1,h2,out,bs,h3,h4,h5⟩:=h
     refine ⟨h1,h2,out,bs,h3,h4,?_⟩
     cases out with
     | ret p rows=>
      obtain ⟨g1,g2,g3⟩:=h5
      refine ⟨g1,g2,_,?_,g3⟩
      exact L4 S st _ _
     | pan r=>
      obtain ⟨g1,g2,g3⟩:=h5
      exact ⟨g1,g2,_,rfl,g3⟩
 · refine .inr ?_
   obtain ⟨ps0,M,M',pin,out,ι,κ,pn,g1,g2,g3,g4,g5,g6,g7,g8,g9⟩:=h
   refine ⟨ps0,M,M',pin,out,ι,κ,pn,g1,g2,g3,g4,g5,g6,g7,g8,?_⟩
   cases pn with
   | false=>exact ⟨_,L4 S st _ _,g9⟩
   | true=>obtain ⟨r,h1,h2⟩:=g9;exact ⟨r,h1,_,L4 S st _ _,h2⟩
theorem b26 {st:St} {parts:List (Nat×Nat×Opd)} {cs:List PV} {K K':List PV→Prop} (hk:∀ cs,K cs→K' cs) (h:a0o st cs parts K):a0o st cs parts K':=by
 obtain ⟨r,h1,h2⟩:=a0c.1 h
 exact a0c.2 ⟨r,h1,hk r h2⟩
theorem b12 {S:Nat→Bool} {st:St} {d:Nat} {o:XOp} {K:PV→St→Prop} (ho:∀ x∈o.opds,∀ s,x=.t s→S s=false) (h:l2 st d o K):l2 (Q8 S st) d o (fun p s=>∃ s2,s=Q8 S s2∧K p s2):=by
 have he:∀ x∈o.opds,ev (Q8 S st) x=ev st x:=fun x hx=>b50 (ho x hx)
 cases o<;>simp only [XOp.opds] at he<;>simp only [l2] at h ⊢
 case mkmap=>exact ⟨_,L4 S st _ _,h⟩
 case mlook s ok z x k=>
  rw [he x (by simp),he k (by simp)]
  split at h
  · rename_i id key e1 e2
    try simp only [e1,e2,v6]
    split at h
    · rename_i s' clk m em
      try simp only [em]
      refine ⟨h.1,h.2.1,?_⟩
      have h3:=h.2.2
      cases hk:m key with
      | some p=>rw [hk] at h3;exact ⟨st,rfl,h3⟩
      | none=>rw [hk] at h3;exact ⟨st,rfl,h3⟩
    · exact h.elim
  · exact h.elim
 case mupd s x k v=>
  rw [he x (by simp),he k (by simp),he v (by simp)]
  split at h
  · rename_i id key e1 e2
    try simp only [e1,e2,v6]
    split at h
    · rename_i s' clk m em
      try simp only [em]
      refine ⟨h.1,h.2.1,h.2.2.1,?_⟩
      have h3:=h.2.2.2
      cases hk:m key with
      | some p=>rw [hk] at h3;exact ⟨_,Y5 S st _,h3⟩
      | none=>rw [hk] at h3;exact ⟨_,Y5 S st _,h3⟩
    · exact h.elim
  · exact h.elim
 case ment s z x k=>
  rw [he x (by simp),he k (by simp)]
  split at h
  · rename_i id key e1 e2
    try simp only [e1,e2,v6]
    split at h
    · rename_i s' clk m em
      try simp only [em]
      refine ⟨h.1,h.2.1,?_⟩
      have h3:=h.2.2
      cases hk:m key with
      | some p=>rw [hk] at h3;exact ⟨st,rfl,h3⟩
      | none=>rw [hk] at h3;exact ⟨_,Y5 S st _,h3⟩
    · exact h.elim
  · exact h.elim
 case mest x b v=>
  rw [he x (by simp),he b (by simp),he v (by simp)]
  split at h
  · rename_i id n e1 e2
    try simp only [e1,e2,v6]
    split at h
    · rename_i s clk m em
      try simp only [em]
      obtain ⟨g1,key,p,g2,g3,g4⟩:=h
      exact ⟨g1,key,p,g2,g3,_,Y5 S st _,g4⟩
    · exact h.elim
  · exact h.elim
 case plit E sz x=>
  rw [he x (by simp),v6]
  exact ⟨h.1,h.2.1,_,L4 S st _ _,h.2.2⟩
 case papp E sz bytes x y=>
  rw [he x (by simp),he y (by simp)]
  split at h
  · rename_i iy e1
    try simp only [e1,v6]
    split at h
    · rename_i Ey sy ny cy em
      try simp only [em]
      refine ⟨h.1,?_⟩
      have h:=h.2
      split at h
      · rename_i id e2
        try simp only [e2]
        split at h
        · rename_i E' sz' n c em2
          try simp only [em2]
          obtain ⟨g1,g2,g3,g4,g5,g6,g7⟩:=h
          exact ⟨g1,g2,g3,g4,g5,g6,_,L4 S st _ _,g7⟩
        · exact h.elim
      · rename_i z e2
        try simp only [e2]
        exact ⟨h.1,h.2.1,_,L4 S st _ _,h.2.2⟩
      · exact h.elim
    · exact h.elim
  · exact h.elim
 case plen x=>
  rw [he x (by simp)]
  split at h
  · rename_i id e1
    try simp only [e1,v6]
    split at h
    · rename_i E sz n c em
      try simp only [em]
      exact ⟨st,rfl,h⟩
    · exact h.elim
  · exact h.elim
 case piaddr sz x i=>
  rw [he x (by simp),he i (by simp)]
  split at h
  · rename_i id k j e1 e2
    try simp only [e1,e2,v6]
    split at h
    · rename_i E s n c em
      try simp only [em]
      exact ⟨h.1,h.2.1,h.2.2.1,st,rfl,h.2.2.2⟩
    · exact h.elim
  · exact h.elim
 case pload agg n x=>
  rw [he x (by simp)]
  split at h
  · rename_i id j s o e1
    try simp only [e1,v6]
    split at h
    · rename_i E sz nn c em
      try simp only [em]
      exact ⟨h.1,h.2.1,h.2.2.1,h.2.2.2.1,st,rfl,h.2.2.2.2⟩
    · exact h.elim
  · exact h.elim
 case pstore n a x=>
  rw [he a (by simp),he x (by simp)]
  refine ⟨h.1,?_⟩
  have h:=h.2
  split at h
  · rename_i id j s o e1
    try simp only [e1,v6]
    split at h
    · rename_i E sz nn c em
      try simp only [em]
      exact ⟨h.1,h.2.1,h.2.2.1,h.2.2.2.1,_,Y5 S st _,h.2.2.2.2⟩
    · exact h.elim
  · exact h.elim
theorem b3u {S:Nat→Bool} {P:Program} {st:St} {d:Nat} {op:POp} {K:PV→St→Prop} {kx:RV→St→Prop} (ho:∀ x∈op.opds,∀ s,x=.t s→S s=false) (h:P6 P st d op K kx) :
 P6 P (Q8 S st) d op (fun p s=>∃ s2,s=Q8 S s2∧K p s2) (fun r s=>∃ s2,s=Q8 S s2∧kx r s2):=by
 have hag:Agree st (Q8 S st) op.opds:=a8g ho
 have hS:∀ op':POp,op'=op→J6 st op' (fun p=>K p st)→J6 (Q8 S st) op' (fun p=>∃ s2,Q8 S st=Q8 S s2∧K p s2):=fun op' e hh=>by
  subst e
  obtain ⟨r,h1,h2⟩:=(Z8 _ _ _).1 hh
  exact (a6m hag _).2 ((Z8 _ _ _).2 ⟨r,h1,st,rfl,h2⟩)
 have he:∀ x∈op.opds,ev (Q8 S st) x=ev st x:=hag.2
 cases op<;>simp only [P6] at h ⊢
 case xop o=>exact b12 ho h
 case alloc z=>exact ⟨_,L4 S st _ _,h⟩
 case box x=>
  rw [he x (by simp [POp.opds]),v6]
  exact ⟨h.1,h.2.1,_,L4 S st _ _,h.2.2⟩
 case build z parts=>
  refine (a3j (st:=st) (by simpa [POp.opds] using hag)).2 (b26 (fun cs hh=>⟨st,rfl,hh⟩) h)
 case lit E sz xs=>
  rw [a3k (st:=st) (by simpa [POp.opds] using hag)]
  split at h
  · rename_i rs e
    try simp only [e]
    exact ⟨_,L4 S st _ _,h⟩
  · exact h.elim
 case store n a x=>
  rw [he a (by simp [POp.opds]),he x (by simp [POp.opds])]
  refine ⟨h.1,?_⟩
  have h:=h.2
  split at h
  · rename_i id off e1
    try simp only [e1,v6]
    split at h
    · rename_i cs em
      try simp only [em]
      exact ⟨h.1,h.2.1,_,Y5 S st _,h.2.2⟩
    · exact h.elim
  · rename_i id j s off e1
    try simp only [e1,v6]
    split at h
    · rename_i E sz xs em
      try simp only [em]
      split at h
      · rename_i rs ev
        try simp only [ev]
        exact ⟨h.1,h.2.1,h.2.2.1,h.2.2.2.1,_,Y5 S st _,h.2.2.2.2⟩
      · exact h.elim
    · exact h.elim
  · exact h.elim
 case app E sz bytes x y=>
  rw [he x (by simp [POp.opds]),he y (by simp [POp.opds]),v6]
  split at h
  · exact h.elim
  · rename_i ys e
    try simp only [e]
    refine ⟨h.1,?_⟩
    have h:=h.2
    split at h
    · rename_i id e1
      try simp only [e1]
      split at h
      · rename_i E' sz' xs em
        try simp only [em]
        obtain ⟨g1,g2,g3,g4,g5,g6,g7⟩:=h
        exact ⟨g1,by rw [← e1];rw [← e1] at g2;exact g2,g3,g4,g5,g6,_,L4 S st _ _,g7⟩
      · exact h.elim
    · rename_i z e1
      try simp only [e1]
      exact ⟨h.1,h.2.1,_,L4 S st _ _,h.2.2⟩
    · exact h.elim
 case call f xs=>
  rw [a56 (fun x hx=>he x (by simp [POp.opds,hx]))]
  exact a4y h
 case callv x xs=>
  rw [he x (by simp [POp.opds]),a56 (fun y hy=>he y (by simp [POp.opds,hy]))]
  split at h
  · rename_i f caps e
    try simp only [e]
    exact ⟨h.1,a4y h.2⟩
  · exact h.elim
 case callr f x xs=>
  rw [he x (by simp [POp.opds]),a56 (fun y hy=>he y (by simp [POp.opds,hy])),v6]
  split at h
  · rename_i id e
    try simp only [e]
    split at h
    · rename_i E sz rs em
      try simp only [em]
      unfold b3x at h ⊢
      rw [v6]
      split at h
      · exact h.elim
      · rename_i as ea
        try simp only [ea]
        obtain ⟨h0,h1,h2,out,rs',h3,h4,h5⟩:=h
        exact ⟨h0,h1,h2,out,rs',h3,h4,_,Y5 S st _,h5⟩
    · exact h.elim
  · rename_i e
    try simp only [e]
    exact a4y h
 case pan x=>
  rw [he x (by simp [POp.opds])]
  split at h
  · rename_i t r e
    try simp only [e]
    exact ⟨st,rfl,h⟩
  · exact h.elim
 case mks E sz bytes agg z x=>
  rw [he x (by simp [POp.opds])]
  split at h
  · rename_i k n zs e1 e2
    try simp only [e1,e2]
    exact ⟨h.1,h.2.1,h.2.2.1,_,L4 S st _ _,h.2.2.2⟩
  · exact h.elim
 case isnil iface neg x=>
  rw [he x (by simp [POp.opds])]
  split at h
  · rename_i e;(try simp only [e]);exact ⟨st,rfl,h⟩
  · rename_i e;(try simp only [e]);exact ⟨st,rfl,h⟩
  · rename_i e;(try simp only [e]);exact ⟨st,rfl,h⟩
  · rename_i e;(try simp only [e]);exact ⟨fun e'=>⟨st,rfl,h.1 e'⟩,st,rfl,h.2⟩
  · rename_i e
    try simp only [e,v6]
    split at h
    · rename_i em;(try simp only [em]);exact ⟨fun e'=>⟨st,rfl,h.1 e'⟩,st,rfl,h.2⟩
    · exact h.elim
  · exact h.elim
 all_goals exact hS _ rfl h
def hit (st:St) (d:Option Nat) (q:PV):Prop:=match d with
 | some d=>q=st.env d
 | none=>True
def a3h (P:Program) (o:POper) (st:St):Prop:=D1 st o.g (V0 P st o.op (hit st o.dst)) (hit st o.dst .skip)
def a2y (P:Program):List (Nat×POper)→St→Prop
 | [],_=>True
 | k :: D,st=>a3h P k.2 st∧a2y P D st
def D4 (ws:List Nat) (D:List (Nat×POper)):List (Nat×POper):=D.filter fun k=>ws.contains k.1
def W8 (P:Program):POM→List (Nat×POper)→St→(St→Prop)→(RV→St→Prop)→Prop
 | .done,_,st,K,_=>K st
 | .early i o t,D,st,K,kx=>D1 st o.g (V0 P st o.op fun p=>W8 P t ((i,o) :: D) (x9 st o.dst p) K kx) (W8 P t ((i,o) :: D) (x9 st o.dst .skip) K kx)
 | .step _ o ws t,D,st,K,kx=>D1 st o.g (P6 P st (o.dst.getD 0) o.op (fun p st'=>a2y P (D4 ws D) (x9 st' o.dst p)∧W8 P t (D4 ws D) (x9 st' o.dst p) K kx) fun r s=>kx r ⟨fun _=>.undef,s.mem⟩)
  (a2y P (D4 ws D) (x9 st o.dst .skip)∧W8 P t (D4 ws D) (x9 st o.dst .skip) K kx)
 | .alt _ o ws t r,D,st,K,kx=>D1 st o.g (P6 P st (o.dst.getD 0) o.op (fun p st'=>a2y P (D4 ws D) (x9 st' o.dst p)∧W8 P t (D4 ws D) (x9 st' o.dst p) K kx) fun r s=>kx r ⟨fun _=>.undef,s.mem⟩)
  (a2y P (D4 ws D) (x9 st o.dst .skip)∧W8 P t (D4 ws D) (x9 st o.dst .skip) K kx)∧W8 P r D st K kx
 | .stop,_,_,_,_=>True
def POM.heads:POM→List Nat
 | .alt i _ _ _ r=>i :: r.heads
 | _=>[]
theorem b6i {P:Program} {D:List (Nat×POper)} {st:St}:a2y P D st↔∀ k∈D,a3h P k.2 st:=by
 induction D with
 | nil=>simp [a2y]
 | cons k D ih=>simp [a2y,ih]
def Z2 (d:Option Nat) (l:List Nat):Bool:=match d with
 | some d=>l.contains d
 | none=>false
def a4i (a b:Option Nat):Bool:=match a with
 | some d=>b == some d
 | none=>false
def b03 (P:Program) (n:Nat) (ops:Array Oper) (i:Nat) (o:POper):Bool:=match ops[i]? with
 | some x=>a4w P n ops x o
 | none=>false
mutual
def a69 (P:Program) (n f:Nat) (ops:Array Oper):POM→Array Bool→List (Nat×POper)→Bool
 | .done,l,_=>(Region.ready .any ops l).isEmpty
 | .early i o t,l,D=>(Region.ready .any ops l).contains i && b03 P n ops i o && !Z2 o.dst (R0 o) &&
  D.all (fun k=>!Z2 o.dst (R0 k.2) && !a4i o.dst k.2.dst && (!Z2 k.2.dst (R0 o) || a38 ops f i k.1)) && a69 P n f ops t (l.setIfInBounds i true) ((i,o) :: D)
 | .step i o ws t,l,D=>Region.ready .any ops l == [i] && b03 P n ops i o &&
  D.all (fun k=>if ws.contains k.1 then !Z2 o.dst (R0 k.2) && !a4i o.dst k.2.dst && !Z2 k.2.dst (R0 o) else a38 ops f i k.1) && a69 P n f ops t (l.setIfInBounds i true) (D4 ws D)
 | .alt i o ws t r,l,D=>(Region.ready .any ops l).all (fun j=>j == i || r.heads.contains j) && (Region.ready .any ops l).contains i && b03 P n ops i o &&
  D.all (fun k=>if ws.contains k.1 then !Z2 o.dst (R0 k.2) && !a4i o.dst k.2.dst && !Z2 k.2.dst (R0 o) else a38 ops f i k.1) && a69 P n f ops t (l.setIfInBounds i true) (D4 ws D) && b1r P n f ops r l D
 | .stop,_,_=>false
def b1r (P:Program) (n f:Nat) (ops:Array Oper):POM→Array Bool→List (Nat×POper)→Bool
 | .alt i o ws t r,l,D=>(Region.ready .any ops l).contains i && b03 P n ops i o &&
  D.all (fun k=>if ws.contains k.1 then !Z2 o.dst (R0 k.2) && !a4i o.dst k.2.dst && !Z2 k.2.dst (R0 o) else a38 ops f i k.1) && a69 P n f ops t (l.setIfInBounds i true) (D4 ws D) && b1r P n f ops r l D
 | .stop,_,_=>true
 | _,_,_=>false
end
def b48 (P:Program) (n:Nat) (ops:Array Oper) (t:POM):Bool:=(List.range ops.size).all (fun j=>(V9 ops j).all fun e=>decide (e < j)) && a69 P n 12 ops t (Array.replicate ops.size false) []
section
variable {P:Program} {F:Ctx} {Q:Exit→Act→World→Prop} {ops:Array Oper}
structure MD (P:Program) (n f:Nat) (ops:Array Oper) (l:Array Bool) (D:List (Nat×POper)):Prop where
 op:∀ k∈D,b03 P n ops k.1 k.2=true
 listed:∀ k∈D,l.getD k.1 false=true
 self:∀ k∈D,∀ d,k.2.dst=some d→d∉R0 k.2
 pair:∀ k∈D,∀ k'∈D,k.1≠k'.1→∀ d,k'.2.dst=some d→k.2.dst≠some d∧(d∈R0 k.2→a38 ops f k.1 k'.1=true)
 uniq:∀ k∈D,∀ k'∈D,k.1=k'.1→k=k'
def SU (D:List (Nat×POper)) (U:Nat→Bool) (x:Nat):Bool:=D.any fun k=>U k.1 && k.2.dst == some x
theorem a1k {D:List (Nat×POper)} {U:Nat→Bool} {x:Nat}:SU D U x=true↔∃ k∈D,U k.1=true∧k.2.dst=some x:=by
 unfold SU
 simp only [List.any_eq_true,Bool.and_eq_true,beq_iff_eq]
structure MR (P:Program) (ops:Array Oper) (l lr:Array Bool) (D:List (Nat×POper)) (U:Nat→Bool) (st:St):Prop where
 size:lr.size=ops.size
 eq:∀ j,lr.getD j false=(l.getD j false && !U j)
 sub:∀ j,U j=true→∃ o,(j,o)∈D
 cl:a1l ops lr
 hold:∀ k∈D,U k.1=true→a3h P k.2 st
theorem a2q {l:Array Bool} {i:Nat} (hl:l.size=ops.size) (h:a1l ops l) (hi:i < ops.size) (hd:∀ e∈V9 ops i,l.getD e false=true):a1l ops (l.setIfInBounds i true):=fun j hj e he=>by
 rw [n9 (by omega)] at hj ⊢
 by_cases hei:e=i
 · rw [if_pos hei]
 · rw [if_neg hei]
   by_cases hji:j=i
   · subst hji;exact hd e he
   · rw [if_neg hji] at hj;exact h j hj e he
theorem a1e {st st':St} {g:Option (Nat×Bool)} {A B:Prop} (h:∀ s b,g=some (s,b)→st'.env s=st.env s):D1 st' g A B=D1 st g A B:=by
 cases g with
 | none=>rfl
 | some sb=>obtain ⟨s,b⟩:=sb;simp only [D1];rw [h s b rfl]
theorem a3t {o:POper} {x:Opd} {s:Nat} (hx:x∈o.op.opds) (h:x=.t s):s∈R0 o:=by
 unfold R0
 exact List.mem_append_left _ (List.mem_filterMap.2 ⟨x,hx,by rw [h]⟩)
theorem a0k {o:POper} {s:Nat} {b:Bool} (h:o.g=some (s,b)):s∈R0 o:=by
 unfold R0
 rw [h]
 exact List.mem_append_right _ (by simp)
theorem a6l {st:St} {op:POp} {K K':PV→Prop} (hK:∀ p,K p→K' p) (h:V0 P st op K):V0 P st op K':=by
 cases op<;>simp only [V0] at h ⊢
 case build=>exact b26 (fun cs=>hK _) h
 case lit=>split at h<;>first | exact hK _ h | exact h
 case call=>exact a2s hK h
 case callv=>
  split at h
  · exact ⟨h.1,a2s hK h.2⟩
  · exact h
 case xop=>exact ⟨h.1,a0j (fun p _=>hK p) h.2⟩
 all_goals (obtain ⟨r,h1,h2⟩:=(Z8 _ _ _).1 h;exact (Z8 _ _ _).2 ⟨r,h1,hK r h2⟩)
theorem late {f:Nat} {l lr:Array Bool} {D:List (Nat×POper)} {U:Nat→Bool} {γ:Nat→Value} {st:St} {a:Act} {w:World} {j:Nat} {X:Act→World→Prop} (hD:MD P F.n f ops l D) (hR:MR P ops l lr D U st) (hI:Inv F γ (Q8 (SU D U) st) a w)
 (hU:U j=true) (hd:∀ e∈V9 ops j,lr.getD e false=true) (hX:∀ γ' a' w',Inv F γ' (Q8 (SU D fun x=>U x && x != j) st) a' w'→X a' w'):wpOp P ops Q j X a w:=by
 obtain ⟨o,ho⟩:=hR.sub j hU
 have hop:=hD.op _ ho
 unfold b03 at hop
 split at hop
 · rename_i x hx
   obtain ⟨g1,g2,g3,_⟩:=Y8 hop
   have free:∀ s∈R0 o,SU D U s=false:=fun s hs=>by
    cases hsu:SU D U s with
    | false=>rfl
    | true=>
     obtain ⟨k',hk',hu,hdst⟩:=a1k.1 hsu
     by_cases he:j=k'.1
     · have:=hD.uniq _ ho _ hk' he
       subst this
       exact absurd hs (hD.self _ ho s hdst)
     · have:=(hD.pair _ ho _ hk' he s hdst).2 hs
       have hb:=Y4 hR.cl f j k'.1 hd this
       rw [hR.eq,hu] at hb
       simp at hb
   have hag:Agree st (Q8 (SU D U) st) o.op.opds:=a8g fun y hy s he=>free s (a3t hy he)
   have hh:=hR.hold _ ho hU
   unfold a3h at hh
   have hg:D1 (Q8 (SU D U) st) o.g (V0 P (Q8 (SU D U) st) o.op (hit st o.dst)) (hit st o.dst .skip):=by
    rw [a1e (st:=st) (fun s b hb=>by simp only [Q8];rw [free s (a0k hb)];rfl)]
    exact Q3 hh (fun h=>(a1n hag _).2 h) (fun h=>h)
   have key:∀ q,hit st o.dst q→x9 (Q8 (SU D U) st) o.dst q=Q8 (SU D fun x=>U x && x != j) st:=fun q hq=>by
    have hset:∀ x,(∀ d,o.dst=some d→x≠d)→SU D (fun x=>U x && x != j) x=SU D U x:=fun x hx=>by
     rw [Bool.eq_iff_iff,a1k,a1k]
     constructor
     · rintro ⟨k,h1,h2,h3⟩
       simp only [Bool.and_eq_true] at h2
       exact ⟨k,h1,h2.1,h3⟩
     · rintro ⟨k,h1,h2,h3⟩
       refine ⟨k,h1,?_,h3⟩
       simp only [Bool.and_eq_true,bne_iff_ne]
       refine ⟨h2,fun he=>?_⟩
       have:=hD.uniq _ h1 _ ho he
       subst this
       exact hx x h3 rfl
    cases hdst:o.dst with
    | none=>
     simp only [x9,Q8,St.mk.injEq,and_true]
     funext x
     rw [hset x (fun d hd'=>by rw [hdst] at hd';cases hd')]
    | some d=>
     rw [hdst] at hq
     simp only [hit] at hq
     subst hq
     simp only [x9,St.set,Q8,St.mk.injEq,and_true]
     funext x
     by_cases hx:x=d
     · subst hx
       rw [l9]
       have:SU D (fun y=>U y && y != j) x=false:=by
        cases hsu:SU D (fun y=>U y && y != j) x with
        | false=>rfl
        | true=>
         obtain ⟨k',hk',hu,hd'⟩:=a1k.1 hsu
         simp only [Bool.and_eq_true,bne_iff_ne] at hu
         exact absurd hd' (hD.pair _ hk' _ ho hu.2 x hdst).1
       rw [this];rfl
     · rw [l8 _ _ _ _ hx,hset x (fun d' hd'=>by rw [hdst] at hd';cases hd';exact hx)]
   unfold wpOp
   rw [hx]
   refine a0n hI hop hg (fun hy=>.inl ?_) (fun hn=>?_)
   · obtain ⟨q,h1,h2⟩:=a7z hy
     refine a6k hI g1 h1 fun γ' v w' hI' hv=>hX γ' _ w' ?_
     rw [g2,← key q h2]
     exact Z1 hI' g3 hv
   · refine hX γ _ w ?_
     rw [g2,← key .skip hn]
     exact Z1 hI g3 .skip
 · cases hop
theorem a78 {l lr:Array Bool} {D:List (Nat×POper)} {U:Nat→Bool} {st:St} (hl:l.size=ops.size) (hR:MR P ops l lr D U st) {i:Nat} (hi:i∈Region.ready .any ops lr) (hU:U i=false):i∈Region.ready .any ops l:=by
 obtain ⟨h1,h2,h3⟩:=(x7 hR.size).1 hi
 refine (x7 hl).2 ⟨h1,?_,fun e he=>?_⟩
 · rw [hR.eq,hU] at h2;simpa using h2
 · have:=h3 e he
   rw [hR.eq] at this
   simp only [Bool.and_eq_true] at this
   exact this.1
theorem a2g {f:Nat} {l lr:Array Bool} {D:List (Nat×POper)} {U:Nat→Bool} {st:St} (hcl:a1l ops l) (hback:∀ j,j < ops.size→∀ e∈V9 ops j,e < j) (hD:MD P F.n f ops l D) (hR:MR P ops l lr D U st) {j:Nat} (hU:U j=true):Region.ready .any ops lr≠[]:=by
 obtain ⟨k,hk,hmin⟩:=least (p:=fun j=>U j=true) j hU
 obtain ⟨o,ho⟩:=hR.sub k hk
 have hop:=hD.op _ ho
 have hsz:k < ops.size:=by
  unfold b03 at hop
  split at hop
  · rename_i x hx;exact (Array.getElem?_eq_some_iff.1 hx).1
  · cases hop
 have:k∈Region.ready .any ops lr:=(x7 hR.size).2 ⟨hsz,by rw [hR.eq,hk];simp,fun e he=>by
  have h1:=hcl k (hD.listed _ ho) e he
  have h2:=hmin e (hback k hsz e he)
  rw [hR.eq,h1]
  simpa using h2⟩
 exact fun h=>by rw [h] at this;cases this
theorem a55 {D:List (Nat×POper)} {U:Nat→Bool} (h:∀ j,U j=false) (st:St):Q8 (SU D U) st=st:=by
 have:SU D U=fun _=>false:=by
  funext x
  cases hs:SU D U x with
  | false=>rfl
  | true=>
   obtain ⟨k,_,hu,_⟩:=a1k.1 hs
   rw [h] at hu;cases hu
 rw [this];rfl
theorem MR.late {l lr:Array Bool} {D:List (Nat×POper)} {U:Nat→Bool} {st:St} (hR:MR P ops l lr D U st) {j:Nat} (hj:j < ops.size) (hU:U j=true) (hlj:l.getD j false=true) (hd:∀ e∈V9 ops j,lr.getD e false=true) :
 MR P ops l (lr.setIfInBounds j true) D (fun x=>U x && x != j) st:=by
 have hs:=hR.size
 refine ⟨by simpa using hs,fun x=>?_,fun x hx=>?_,a2q hs hR.cl hj hd,fun k hk hu=>?_⟩
 · rw [n9 (by omega),hR.eq]
   by_cases hx:x=j
   · subst hx;simp [hlj]
   · have h2:(x != j)=true:=by simpa using hx
     simp only [hx,if_false,h2,Bool.and_true]
 · simp only [Bool.and_eq_true] at hx;exact hR.sub x hx.1
 · simp only [Bool.and_eq_true] at hu;exact hR.hold k hk hu.1
def MainM (P:Program) (F:Ctx) (Q:Exit→Act→World→Prop) (ops:Array Oper) (f:Nat) (K:St→Prop) (kx:RV→St→Prop) (t:POM):Prop:=
 ∀ (l:Array Bool) (D:List (Nat×POper)),l.size=ops.size→a1l ops l→a69 P F.n f ops t l D=true→MD P F.n f ops l D →
  ∀ (fuel:Nat) (U:Nat→Bool) (lr:Array Bool) (γ:Nat→Value) (st:St) (a:Act) (w:World),MR P ops l lr D U st→Inv F γ (Q8 (SU D U) st) a w→W8 P t D st K kx→left ops lr≤fuel→wpAny P .any ops Q fuel lr a w
def AltM (P:Program) (F:Ctx) (Q:Exit→Act→World→Prop) (ops:Array Oper) (f:Nat) (K:St→Prop) (kx:RV→St→Prop) (t:POM):Prop:=
 ∀ (l:Array Bool) (D:List (Nat×POper)),l.size=ops.size→a1l ops l→b1r P F.n f ops t l D=true→MD P F.n f ops l D →
  ∀ (fuel:Nat) (U:Nat→Bool) (lr:Array Bool) (γ:Nat→Value) (st:St) (a:Act) (w:World),MR P ops l lr D U st→Inv F γ (Q8 (SU D U) st) a w→W8 P t D st K kx→left ops lr≤fuel+1 →
   ∀ i∈t.heads,i∈Region.ready .any ops lr→U i=false→wpOp P ops Q i (fun a w=>wpAny P .any ops Q fuel (lr.setIfInBounds i true) a w) a w
theorem stepM {f:Nat} {K:St→Prop} {kx:RV→St→Prop} {t:POM} (hQx:∀ γ st a w r v,Inv F γ st a w→RepR (i8 F.L γ st.mem) w r v→kx r st→Q (.panic [{ v,recovered:=false }]) a w) (iht:MainM P F Q ops f K kx t) {i:Nat} {o:POper} {ws:List Nat} {l:Array Bool} {D:List (Nat×POper)} (hl:l.size=ops.size) (hcl:a1l ops l) (hi0:i∈Region.ready .any ops l) (hop:b03 P F.n ops i o=true)
 (hall:∀ k∈D,(if ws.contains k.1=true then !Z2 o.dst (R0 k.2) && !a4i o.dst k.2.dst && !Z2 k.2.dst (R0 o) else a38 ops f i k.1)=true) (hc2:a69 P F.n f ops t (l.setIfInBounds i true) (D4 ws D)=true) (hD:MD P F.n f ops l D)
 {fuel:Nat} {U:Nat→Bool} {lr:Array Bool} {γ:Nat→Value} {st:St} {a:Act} {w:World} (hR:MR P ops l lr D U st) (hI:Inv F γ (Q8 (SU D U) st) a w)
 (hK:D1 st o.g (P6 P st (o.dst.getD 0) o.op (fun p st'=>a2y P (D4 ws D) (x9 st' o.dst p)∧W8 P t (D4 ws D) (x9 st' o.dst p) K kx) fun r s=>kx r ⟨fun _=>.undef,s.mem⟩) (a2y P (D4 ws D) (x9 st o.dst .skip)∧W8 P t (D4 ws D) (x9 st o.dst .skip) K kx))
 (hf:left ops lr≤fuel+1) (hi:i∈Region.ready .any ops lr) (hu:U i=false):wpOp P ops Q i (fun a w=>wpAny P .any ops Q fuel (lr.setIfInBounds i true) a w) a w:=by
 obtain ⟨r1,r2,r3⟩:=(x7 hl).1 hi0
 have hD':MD P F.n f ops (l.setIfInBounds i true) (D4 ws D):=by
  have sub:∀ k∈D4 ws D,k∈D:=fun k hk=>(List.mem_filter.1 hk).1
  exact ⟨fun k hk=>hD.op k (sub k hk),fun k hk=>by
   rw [n9 (by omega)]
   split
   · rfl
   · exact hD.listed k (sub k hk),fun k hk=>hD.self k (sub k hk),fun k hk k' hk'=>hD.pair k (sub k hk) k' (sub k' hk'),fun k hk k' hk'=>hD.uniq k (sub k hk) k' (sub k' hk')⟩
 obtain ⟨h1,h2,h3⟩:=(x7 hR.size).1 hi
 have hlt:=Y9 hR.size hi
 have inW:∀ k∈D,U k.1=true→k∈D4 ws D∧Z2 o.dst (R0 k.2)=false∧a4i o.dst k.2.dst=false∧Z2 k.2.dst (R0 o)=false:=fun k hk hku=>by
  have:=hall k hk
  by_cases hw:ws.contains k.1=true
  · rw [if_pos hw] at this
    simp only [Bool.and_eq_true,Bool.not_eq_true'] at this
    exact ⟨List.mem_filter.2 ⟨hk,hw⟩,this.1.1,this.1.2,this.2⟩
  · rw [if_neg hw] at this
    have hb:=Y4 hR.cl f i k.1 h3 this
    rw [hR.eq,hku] at hb
    simp at hb
 have hSU:SU (D4 ws D) U=SU D U:=by
  funext x
  rw [Bool.eq_iff_iff,a1k,a1k]
  constructor
  · rintro ⟨k,g1,g2,g3⟩;exact ⟨k,(List.mem_filter.1 g1).1,g2,g3⟩
  · rintro ⟨k,g1,g2,g3⟩;exact ⟨k,(inW k g1 g2).1,g2,g3⟩
 have hfree:∀ s∈R0 o,SU D U s=false:=fun s hs=>by
  cases hsu:SU D U s with
  | false=>rfl
  | true=>
   obtain ⟨k,g1,g2,g3⟩:=a1k.1 hsu
   have:=(inW k g1 g2).2.2.2
   rw [g3] at this;simp only [Z2] at this
   simp at this;exact absurd hs this
 have hdst:∀ d,o.dst=some d→SU D U d=false:=fun d hd=>by
  cases hsu:SU D U d with
  | false=>rfl
  | true=>
   obtain ⟨k,g1,g2,g3⟩:=a1k.1 hsu
   have:=(inW k g1 g2).2.2.1
   rw [hd,g3] at this;simp [a4i] at this
 have hset:∀ (s2:St) (p:PV),x9 (Q8 (SU D U) s2) o.dst p=Q8 (SU (D4 ws D) U) (x9 s2 o.dst p):=fun s2 p=>by
  rw [hSU]
  cases hd:o.dst with
  | none=>rfl
  | some d=>
   simp only [x9,St.set,Q8,St.mk.injEq,and_true]
   funext x
   by_cases hx:x=d
   · subst hx;rw [l9,hdst x hd,l9];rfl
   · rw [l8 _ _ _ _ hx,l8 _ _ _ _ hx]
 have fin:∀ (γ':Nat→Value) (s2:St) (p:PV) (a':Act) (w':World),Inv F γ' (x9 (Q8 (SU D U) s2) o.dst p) a' w'→a2y P (D4 ws D) (x9 s2 o.dst p)→W8 P t (D4 ws D) (x9 s2 o.dst p) K kx→wpAny P .any ops Q fuel (lr.setIfInBounds i true) a' w':=fun γ' s2 p a' w' hI' hw hK'=>by
  rw [hset] at hI'
  refine iht (l.setIfInBounds i true) (D4 ws D) (by simpa using hl) (a2q hl hcl r1 r3) hc2 hD' fuel U (lr.setIfInBounds i true) γ' (x9 s2 o.dst p) a' w' ⟨by simpa using hR.size,fun j=>?_,fun j hj=>?_,a2q hR.size hR.cl h1 h3,fun k hk _=>b6i.1 hw k hk⟩ hI' hK' (by omega)
  · rw [n9 (by rw [hR.size];exact h1),n9 (by omega),hR.eq]
    by_cases hj:j=i
    · subst hj;simp [hu]
    · simp [hj]
  · obtain ⟨o',ho'⟩:=hR.sub j hj
    exact ⟨o',(inW _ ho' hj).1⟩
 unfold b03 at hop
 split at hop
 · rename_i x hx
   obtain ⟨g1,g2,g3,_⟩:=Y8 hop
   unfold wpOp
   rw [hx]
   have hge:∀ A B:Prop,D1 (Q8 (SU D U) st) o.g A B=D1 st o.g A B:=fun A B=>a1e (fun s b hb=>by simp only [Q8];rw [hfree s (a0k hb)];rfl)
   have hg:=(hge _ _).symm ▸ hK
   refine a0n hI hop hg (fun hy=>.inl ?_) (fun hn=>?_)
   · have hy':=b3u (S:=SU D U) (fun y hy s he=>hfree s (a3t hy he)) hy
     refine a2e (by cases hd:o.dst with | none=>simp | some x=>(have:=g3 x hd;have:=hI.fr.hn;simp;omega)) hI g1 hy' ⟨fun γ' st' q v w' hI' hq hK'=>?_,fun γ' st' r v w' hI' hr hk=>(let ⟨s2,e,h⟩:=hk;by subst e;exact hQx γ' ⟨fun _=>.undef,s2.mem⟩ _ w' r v ⟨hI'.sz,hI'.df,fun x=>.undef _,hI'.mem,hI'.fr,hI'.gl,hI'.pin,hI'.pinr,hI'.pinn⟩ hr h)⟩
     obtain ⟨s2,rfl,hw,hK2⟩:=hK'
     exact fin γ' s2 q _ w' (by rw [g2];exact Z1 hI' g3 hq) hw hK2
   · exact fin γ st .skip _ w (by rw [g2];exact Z1 hI g3 .skip) hn.1 hn.2
 · cases hop
theorem b4b {f:Nat} {K:St→Prop} {kx:RV→St→Prop} (hQ:∀ γ st a w,Inv F γ st a w→K st→Q .normal a w) (hQx:∀ γ st a w r v,Inv F γ st a w→RepR (i8 F.L γ st.mem) w r v→kx r st→Q (.panic [{ v,recovered:=false }]) a w) (hback:∀ j,j < ops.size→∀ e∈V9 ops j,e < j) :
 ∀ (t:POM),MainM P F Q ops f K kx t∧AltM P F Q ops f K kx t:=by
 intro t
 induction t with
 | done=>
  refine ⟨?_,fun l D hl hcl hc=>by simp [b1r] at hc⟩
  intro l D hl hcl hc hD fuel
  have hc0:Region.ready .any ops l=[]:=by simpa [a69] using hc
  have hall:∀ {U lr st},MR P ops l lr D U st→∀ i∈Region.ready .any ops lr,U i=true:=fun {U lr st} hR i hi=>by
   cases hu:U i with
   | true=>rfl
   | false=>have:=a78 hl hR hi hu;rw [hc0] at this;cases this
  induction fuel with
  | zero=>
   intro U lr γ st a w hR hI hK hf
   have h0:Region.ready .any ops lr=[]:=by
    cases hr:Region.ready .any ops lr with
    | nil=>rfl
    | cons i r=>
     have:=Y9 hR.size (i:=i) (by rw [hr];simp)
     omega
   refine ⟨h0,hQ γ st a w ?_ hK⟩
   have:∀ j,U j=false:=fun j=>by
    cases hu:U j with
    | false=>rfl
    | true=>exact absurd h0 (a2g hcl hback hD hR hu)
   rwa [a55 this] at hI
  | succ fuel ih=>
   intro U lr γ st a w hR hI hK hf
   refine ⟨fun h0=>hQ γ st a w ?_ hK,fun i hi=>?_⟩
   · have:∀ j,U j=false:=fun j=>by
      cases hu:U j with
      | false=>rfl
      | true=>exact absurd h0 (a2g hcl hback hD hR hu)
     rwa [a55 this] at hI
   · have hu:=hall hR i hi
     obtain ⟨h1,h2,h3⟩:=(x7 hR.size).1 hi
     obtain ⟨o,ho⟩:=hR.sub i hu
     have hlt:=Y9 hR.size hi
     exact Go.PW.late hD hR hI hu h3 fun γ' a' w' hI'=>ih _ _ γ' st a' w' (hR.late h1 hu (hD.listed _ ho) h3) hI' hK (by omega)
 | early i o t iht=>
  refine ⟨?_,fun l D hl hcl hc=>by simp [b1r] at hc⟩
  replace iht:=iht.1
  intro l D hl hcl hc hD fuel U lr γ st a w hR hI hK hf
  simp only [a69,Bool.and_eq_true,List.contains_iff_mem,Bool.not_eq_true',List.all_eq_true,Bool.or_eq_true] at hc
  obtain ⟨⟨⟨⟨hri,hop⟩,hself⟩,hall⟩,hc2⟩:=hc
  obtain ⟨r1,r2,r3⟩:=(x7 hl).1 hri
  have hnotin:∀ k∈D,k.1≠i:=fun k hk he=>by
   have:=hD.listed k hk
   rw [he,r2] at this;cases this
  have hUi:U i=false:=by
   cases hu:U i with
   | false=>rfl
   | true=>
    obtain ⟨o',ho'⟩:=hR.sub i hu
    exact absurd rfl (hnotin _ ho')
  have hD':MD P F.n f ops (l.setIfInBounds i true) ((i,o) :: D):=by
   refine ⟨fun k hk=>?_,fun k hk=>?_,fun k hk d hd=>?_,fun k hk k' hk' hne d hd=>?_,fun k hk k' hk' he=>?_⟩
   · rcases List.mem_cons.1 hk with rfl | hk
     · exact hop
     · exact hD.op k hk
   · rw [n9 (by omega)]
     split
     · rfl
     · rename_i hne
       rcases List.mem_cons.1 hk with rfl | hk
       · exact absurd rfl hne
       · exact hD.listed k hk
   · rcases List.mem_cons.1 hk with rfl | hk
     · rw [hd] at hself;simp only [Z2] at hself
       simpa using hself
     · exact hD.self k hk d hd
   · rcases List.mem_cons.1 hk with rfl | hk<;>rcases List.mem_cons.1 hk' with rfl | hk'
     · exact absurd rfl hne
     · obtain ⟨⟨_,h2⟩,h3⟩:=hall _ hk'
       refine ⟨fun he=>?_,fun hs=>?_⟩
       · rw [he] at h2;simp only [a4i] at h2
         rw [hd] at h2;simp at h2
       · rcases h3 with h3 | h3
         · rw [hd] at h3;simp only [Z2] at h3
           simp at h3;exact absurd hs h3
         · exact h3
     · obtain ⟨⟨h1,h2⟩,_⟩:=hall _ hk
       refine ⟨fun he=>?_,fun hs=>?_⟩
       · rw [hd] at h2;simp only [a4i] at h2
         rw [he] at h2;simp at h2
       · rw [hd] at h1;simp only [Z2] at h1
         simp at h1;exact absurd hs h1
     · exact hD.pair k hk k' hk' hne d hd
   · rcases List.mem_cons.1 hk with rfl | hk<;>rcases List.mem_cons.1 hk' with rfl | hk'
     · rfl
     · exact absurd he.symm (hnotin _ hk')
     · exact absurd he (hnotin _ hk)
     · exact hD.uniq k hk k' hk' he
  have go:∀ p,(a3h P o (x9 st o.dst p))→W8 P t ((i,o) :: D) (x9 st o.dst p) K kx→wpAny P .any ops Q fuel lr a w:=fun p hh hK'=>by
   have hU':∀ x,SU ((i,o) :: D) (fun x=>U x || x == i) x=(SU D U x || o.dst == some x):=fun x=>by
    rw [Bool.eq_iff_iff,a1k,Bool.or_eq_true,a1k,beq_iff_eq]
    constructor
    · rintro ⟨k,h1,h2,h3⟩
      rcases List.mem_cons.1 h1 with rfl | h1
      · exact .inr h3
      · simp only [Bool.or_eq_true,beq_iff_eq] at h2
        rcases h2 with h2 | h2
        · exact .inl ⟨k,h1,h2,h3⟩
        · exact absurd h2 (hnotin k h1)
    · rintro (⟨k,h1,h2,h3⟩ | h)
      · exact ⟨k,List.mem_cons_of_mem _ h1,by simp [h2],h3⟩
      · exact ⟨(i,o),by simp,by simp,h⟩
   have hmem:(x9 st o.dst p).mem=st.mem:=by cases o.dst<;>rfl
   have henv:∀ x,o.dst≠some x→(x9 st o.dst p).env x=st.env x:=fun x hx=>by
    cases hd:o.dst with
    | none=>rfl
    | some d=>
     simp only [x9,St.set]
     rw [l8]
     rintro rfl
     exact hx hd
   refine iht (l.setIfInBounds i true) ((i,o) :: D) (by simpa using hl) (a2q hl hcl r1 r3) hc2 hD' fuel (fun x=>U x || x == i) lr γ (x9 st o.dst p) a w ⟨hR.size,fun j=>?_,fun j hj=>?_,hR.cl,fun k hk hu=>?_⟩ ?_ hK' hf
   · rw [n9 (by omega),hR.eq]
     by_cases hj:j=i
     · subst hj;simp [r2]
     · have h2:(j == i)=false:=by simpa using hj
       simp only [hj,if_false,h2,Bool.or_false]
   · simp only [Bool.or_eq_true,beq_iff_eq] at hj
     rcases hj with hj | rfl
     · obtain ⟨o',ho'⟩:=hR.sub j hj
       exact ⟨o',List.mem_cons_of_mem _ ho'⟩
     · exact ⟨o,by simp⟩
   · rcases List.mem_cons.1 hk with rfl | hk
     · exact hh
     · have hu':U k.1=true:=by
        simp only [Bool.or_eq_true,beq_iff_eq] at hu
        rcases hu with hu | hu
        · exact hu
        · exact absurd hu (hnotin k hk)
       obtain ⟨⟨h1,h2⟩,_⟩:=hall _ hk
       have hold:=hR.hold k hk hu'
       have hs:∀ s∈R0 k.2,o.dst≠some s:=fun s hs he=>by
        rw [he] at h1;simp only [Z2] at h1
        simp at h1;exact h1 hs
       have hne:∀ d,k.2.dst=some d→o.dst≠some d:=fun d hd he=>by
        rw [he] at h2;simp only [a4i] at h2
        rw [hd] at h2;simp at h2
       have hhit:∀ q,hit (x9 st o.dst p) k.2.dst q=hit st k.2.dst q:=fun q=>by
        cases hd:k.2.dst with
        | none=>rfl
        | some d=>simp only [hit];rw [henv d (hne d hd)]
       have hag:Agree st (x9 st o.dst p) k.2.op.opds:=⟨hmem,fun y hy=>by
        cases y with
        | t s=>simp only [ev];exact henv s (hs s (a3t hy rfl))
        | k q=>rfl⟩
       unfold a3h at hold ⊢
       rw [a1e (st:=st) (fun s b hb=>henv s (hs s (a0k hb))),hhit]
       refine Q3 hold (fun h=>(a1n hag _).2 ?_) (fun h=>h)
       exact a6l (fun q hq=>by rw [hhit];exact hq) h
   · refine ⟨hI.sz,hI.df,fun x=>?_,?_,hI.fr,?_,?_,?_,?_⟩
     · have hx:=hI.env x
       show RepP γ (i8 F.L γ (x9 st o.dst p).mem) w (if SU ((i,o) :: D) (fun x=>U x || x == i) x=true then .undef else (x9 st o.dst p).env x) _
       rw [hU',hmem]
       by_cases h1:o.dst=some x
       · simp only [h1,beq_self_eq_true,Bool.or_true,if_true];exact .undef _
       · rw [henv x h1]
         have h2:(o.dst == some x)=false:=by simpa using h1
         rw [h2,Bool.or_false]
         exact hx
     · have:=hI.mem
       simp only [v6] at this ⊢
       rw [hmem];exact this
     · have:=hI.gl
       simp only [v6] at this ⊢
       rw [hmem];exact this
     · have:=hI.pin
       simp only [v6] at this ⊢
       rw [hmem];exact this
     · have:=hI.pinr
       simp only [v6] at this ⊢
       rw [hmem];exact this
     · have:=hI.pinn
       simp only [v6] at this ⊢
       rw [hmem];exact this
  have hsl:∀ s∈R0 o,o.dst≠some s:=fun s hs he=>by
   rw [he] at hself;simp only [Z2] at hself
   simp at hself;exact hself hs
  have henv:∀ p x,o.dst≠some x→(x9 st o.dst p).env x=st.env x:=fun p x hx=>by
   cases hd:o.dst with
   | none=>rfl
   | some d=>
    simp only [x9,St.set]
    rw [l8]
    rintro rfl
    exact hx hd
  have hh1:∀ p,hit (x9 st o.dst p) o.dst p:=fun p=>by
   cases hd:o.dst with
   | none=>trivial
   | some d=>simp only [hit,x9,St.set];rw [l9]
  have hag:∀ p,Agree st (x9 st o.dst p) o.op.opds:=fun p=>⟨by cases o.dst<;>rfl,fun y hy=>by
   cases y with
   | t s=>simp only [ev];exact henv p s (hsl s (a3t hy rfl))
   | k q=>rfl⟩
  simp only [W8] at hK
  rcases b0h hK with ⟨h1,h2⟩ | ⟨h1,h2⟩
  · obtain ⟨p,g1,g2⟩:=a7z h1
    refine go p ?_ g2
    unfold a3h
    rw [a1e (st:=st) (fun s b hb=>henv p s (hsl s (a0k hb)))]
    exact h2 _ _ ((a1n (hag p) _).2 (a6l (fun q hq=>by rw [hq];exact hh1 p) g1))
  · refine go .skip ?_ h1
    unfold a3h
    rw [a1e (st:=st) (fun s b hb=>henv .skip s (hsl s (a0k hb)))]
    exact h2 _ _ (hh1 .skip)
 | step i0 o ws t iht=>
  refine ⟨?_,fun l D hl hcl hc=>by simp [b1r] at hc⟩
  intro l D hl hcl hc hD fuel
  simp only [a69,Bool.and_eq_true,beq_iff_eq,List.all_eq_true] at hc
  obtain ⟨⟨⟨hri,hop⟩,hall⟩,hc2⟩:=hc
  have hi0:i0∈Region.ready .any ops l:=by rw [hri];simp
  obtain ⟨r1,r2,r3⟩:=(x7 hl).1 hi0
  have nonempty:∀ {U lr st},MR P ops l lr D U st→Region.ready .any ops lr≠[]:=fun {U lr st} hR=>by
   by_cases hu:∃ j,U j=true
   · obtain ⟨j,hj⟩:=hu
     exact a2g hcl hback hD hR hj
   · have hnu:∀ j,U j=false:=fun j=>by
      cases h:U j with
      | false=>rfl
      | true=>exact absurd ⟨j,h⟩ hu
     have:i0∈Region.ready .any ops lr:=(x7 hR.size).2 ⟨r1,by rw [hR.eq,r2];rfl,fun e he=>by rw [hR.eq,r3 e he,hnu];rfl⟩
     exact fun h=>by rw [h] at this;cases this
  induction fuel with
  | zero=>
   intro U lr γ st a w hR hI hK hf
   exfalso
   cases hr:Region.ready .any ops lr with
   | nil=>exact nonempty hR hr
   | cons i r=>
    have:=Y9 hR.size (i:=i) (by rw [hr];simp)
    omega
  | succ fuel ih=>
   intro U lr γ st a w hR hI hK hf
   refine ⟨fun h0=>absurd h0 (nonempty hR),fun i hi=>?_⟩
   obtain ⟨h1,h2,h3⟩:=(x7 hR.size).1 hi
   have hlt:=Y9 hR.size hi
   cases hu:U i with
   | true=>
    obtain ⟨o',ho'⟩:=hR.sub i hu
    exact Go.PW.late hD hR hI hu h3 fun γ' a' w' hI'=>ih _ _ γ' st a' w' (hR.late h1 hu (hD.listed _ ho') h3) hI' hK (by omega)
   | false=>
    have hii:i=i0:=by
     have:=a78 hl hR hi hu
     rw [hri] at this
     simpa using this
    subst hii
    simp only [W8] at hK
    exact stepM hQx iht.1 hl hcl hi0 hop hall hc2 hD hR hI hK hf hi hu
 | stop=>exact ⟨fun l D hl hcl hc=>by simp [a69] at hc,fun l D hl hcl hc hD fuel U lr γ st a w hR hI hK hf i hi=>by simp [POM.heads] at hi⟩
 | alt i0 o ws t r iht ihr=>
  have two:AltM P F Q ops f K kx (.alt i0 o ws t r):=by
   intro l D hl hcl hc hD fuel U lr γ st a w hR hI hK hf i hi hr hu
   simp only [b1r,Bool.and_eq_true,List.all_eq_true] at hc
   obtain ⟨⟨⟨⟨hi0,hop⟩,hall⟩,hc2⟩,hc3⟩:=hc
   replace hi0:=List.contains_iff_mem.1 hi0
   simp only [W8] at hK
   simp only [POM.heads,List.mem_cons] at hi
   rcases hi with rfl | hi
   · exact stepM hQx iht.1 hl hcl hi0 hop hall hc2 hD hR hI hK.1 hf hr hu
   · exact ihr.2 l D hl hcl hc3 hD fuel U lr γ st a w hR hI hK.2 hf i hi hr hu
  refine ⟨?_,two⟩
  intro l D hl hcl hc hD fuel
  simp only [a69,Bool.and_eq_true,List.all_eq_true] at hc
  obtain ⟨⟨⟨⟨⟨hcov,hi0⟩,hop⟩,hall⟩,hc2⟩,hc3⟩:=hc
  have hcA:b1r P F.n f ops (.alt i0 o ws t r) l D=true:=by
   simp only [b1r,Bool.and_eq_true,List.all_eq_true]
   exact ⟨⟨⟨⟨hi0,hop⟩,hall⟩,hc2⟩,hc3⟩
  replace hi0:=List.contains_iff_mem.1 hi0
  obtain ⟨r1,r2,r3⟩:=(x7 hl).1 hi0
  have nonempty:∀ {U lr st},MR P ops l lr D U st→Region.ready .any ops lr≠[]:=fun {U lr st} hR=>by
   by_cases hu:∃ j,U j=true
   · obtain ⟨j,hj⟩:=hu
     exact a2g hcl hback hD hR hj
   · have hnu:∀ j,U j=false:=fun j=>by
      cases h:U j with
      | false=>rfl
      | true=>exact absurd ⟨j,h⟩ hu
     have:i0∈Region.ready .any ops lr:=(x7 hR.size).2 ⟨r1,by rw [hR.eq,r2];rfl,fun e he=>by rw [hR.eq,r3 e he,hnu];rfl⟩
     exact fun h=>by rw [h] at this;cases this
  induction fuel with
  | zero=>
   intro U lr γ st a w hR hI hK hf
   exfalso
   cases hr:Region.ready .any ops lr with
   | nil=>exact nonempty hR hr
   | cons i r=>
    have:=Y9 hR.size (i:=i) (by rw [hr];simp)
    omega
  | succ fuel ih=>
   intro U lr γ st a w hR hI hK hf
   refine ⟨fun h0=>absurd h0 (nonempty hR),fun i hi=>?_⟩
   obtain ⟨h1,h2,h3⟩:=(x7 hR.size).1 hi
   have hlt:=Y9 hR.size hi
   cases hu:U i with
   | true=>
    obtain ⟨o',ho'⟩:=hR.sub i hu
    exact Go.PW.late hD hR hI hu h3 fun γ' a' w' hI'=>ih _ _ γ' st a' w' (hR.late h1 hu (hD.listed _ ho') h3) hI' hK (by omega)
   | false=>
    have hin:i∈(POM.alt i0 o ws t r).heads:=by
     have hc':=hcov i (a78 hl hR hi hu)
     rw [Bool.or_eq_true,beq_iff_eq,List.contains_iff_mem] at hc'
     rcases hc' with h | h
     · subst h;simp [POM.heads]
     · simp [POM.heads,h]
    exact two l D hl hcl hcA hD fuel U lr γ st a w hR hI hK hf i hin hi hu
theorem b6s {id:Nat} {t:POM} {K:St→Prop} {kx:RV→St→Prop} {γ:Nat→Value} {st:St} {a:Act} {w:World} (hm:P.follows .mixedOrders=true) (hI:Inv F γ st a w) (hc:b48 P F.n ops t=true) (h:W8 P t [] st K kx) (hQ:b0p F K kx Q):(Code.region id ops true).wp P Q a w:=by
 refine wp_region_any hm ?_
 simp only [b48,Bool.and_eq_true,List.all_eq_true,List.mem_range,decide_eq_true_eq] at hc
 have hB:Below w.heap.size w { w with drawn:=w.drawn+1 }:=⟨rfl,rfl,rfl,Nat.le_refl _,fun _ _=>rfl⟩
 have hcl:a1l ops (Array.replicate ops.size false):=fun j hj=>by
  exfalso
  simp [Array.getD_eq_getD_getElem?,Array.getElem?_replicate] at hj
  split at hj<;>simp at hj
 refine (b4b hQ.1 hQ.2 (fun j hj e he=>hc.1 j hj e he) t).1 _ [] (by simp) hcl hc.2 ⟨fun k hk=>by (cases hk),fun k hk=>by (cases hk),fun k hk=>by (cases hk),fun k hk=>by (cases hk),fun k hk=>by (cases hk)⟩ _ (fun _=>false) _ γ st a _ ⟨by simp,fun j=>by simp,fun j hj=>by (cases hj),hcl,fun k hk=>by (cases hk)⟩ ?_ h (Nat.le_trans List.countP_le_length (by simp))
 rw [a55 (fun _=>rfl)]
 exact hI.later hB
end
end Go.PW
