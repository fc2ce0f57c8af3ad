/- Regions in any order, evaluated in one order: pure operations ahead of time, what they yield held against what comes between. -/
import Derived.Test.YtfoapolbgpjfaaaGreatDoorPWp
set_option linter.unusedSectionVars false
set_option linter.unusedSimpArgs false
set_option linter.unusedVariables false
namespace Go.PW
variable [GF]
open Go.RowKit
def Y0 (S:Nat→Bool) (st:St):St:=⟨fun x=>if S x then .undef else st.env x,st.mem⟩
theorem S9 (S:Nat→Bool) (st:St):(Y0 S st).mem=st.mem:=rfl
theorem c0s {S:Nat→Bool} {st:St} {x:Opd} (h:∀ s,x=.t s→S s=false):ev (Y0 S st) x=ev st x:=by
 cases x with
 | t s=>simp only [ev,Y0];rw [h s rfl];rfl
 | k p=>rfl
theorem b1l {S:Nat→Bool} {st:St} {xs:List Opd} (h:∀ x∈xs,∀ s,x=.t s→S s=false):Agree st (Y0 S st) xs:=⟨rfl,fun x hx=>c0s (h x hx)⟩
theorem W6 (S:Nat→Bool) (st:St) (d:Nat→Bool) (M:Nat→MObj):(⟨fun x=>((Y0 S st).env x).kill d,M⟩:St)=Y0 S ⟨fun x=>(st.env x).kill d,M⟩:=by
 simp only [Y0,St.mk.injEq,and_true]
 funext x
 by_cases h:S x=true<;>simp [h,PV.kill]
theorem a1i (S:Nat→Bool) (st:St) (M:Nat→MObj):(⟨(Y0 S st).env,M⟩:St)=Y0 S ⟨st.env,M⟩:=rfl
theorem a8v {st st':St} {xs:List Opd} (h:∀ x∈xs,ev st' x=ev st x):xs.map (ev st')=xs.map (ev st):=List.map_congr_left h
theorem a7l {S:Nat→Bool} {P:Program} {st:St} {d f:Nat} {ps:List PV} {K:PV→St→Prop} {kx:RV→St→Prop} (h:a5w P st d f ps K kx) :
 a5w P (Y0 S st) d f ps (fun p s=>∃ s2,s=Y0 S s2∧K p s2) (fun r s=>∃ s2,s=Y0 S s2∧kx r s2):=by
 rcases h with h | h
 · refine .inl ?_
   unfold a4a at h ⊢
   rw [S9]
   split at h
   · exact h
   · rename_i as e
     obtain ⟨h1,h2,out,bs,h3,h4,h5⟩:=h
     refine ⟨h1,h2,out,bs,h3,h4,?_⟩
     cases out with
     | ret p rows=>
      obtain ⟨g1,g2,g3⟩:=h5
      refine ⟨g1,g2,_,?_,g3⟩
      exact W6 S st _ _
     | pan r=>
      obtain ⟨g1,g2,g3⟩:=h5
      exact ⟨g1,g2,_,rfl,g3⟩
 · refine .inr ?_
   obtain ⟨ps0,M,M',pin,out,ι,κ,pn,g1,g2,g3,g4,g5,g6,g7,g8,g9⟩:=h
   refine ⟨ps0,M,M',pin,out,ι,κ,pn,g1,g2,g3,g4,g5,g6,g7,g8,?_⟩
   cases pn with
   | false=>exact ⟨_,W6 S st _ _,g9⟩
   | true=>obtain ⟨r,h1,h2⟩:=g9;exact ⟨r,h1,_,W6 S st _ _,h2⟩
theorem b7k {st:St} {parts:List (Nat×Nat×Opd)} {cs:List PV} {K K':List PV→Prop} (hk:∀ cs,K cs→K' cs) (h:a2m st cs parts K):a2m st cs parts K':=by
 obtain ⟨r,h1,h2⟩:=a16.1 h
 exact a16.2 ⟨r,h1,hk r h2⟩
theorem b5y {S:Nat→Bool} {st:St} {d:Nat} {o:XOp} {K:PV→St→Prop} (ho:∀ x∈o.opds,∀ s,x=.t s→S s=false) (h:Q5 st d o K):Q5 (Y0 S st) d o (fun p s=>∃ s2,s=Y0 S s2∧K p s2):=by
 have he:∀ x∈o.opds,ev (Y0 S st) x=ev st x:=fun x hx=>c0s (ho x hx)
 cases o<;>simp only [XOp.opds] at he<;>simp only [Q5] at h ⊢
 case mkmap=>exact ⟨_,W6 S st _ _,h⟩
 case mlook s ok z x k=>
  rw [he x (by simp),he k (by simp)]
  split at h
  · rename_i id key e1 e2
    try simp only [e1,e2,S9]
    split at h
    · rename_i s' clk m em
      try simp only [em]
      refine ⟨h.1,h.2.1,?_⟩
      have h3:=h.2.2
      cases hk:m key with
      | some p=>rw [hk] at h3;exact ⟨st,rfl,h3⟩
      | none=>rw [hk] at h3;exact ⟨st,rfl,h3⟩
    · exact h.elim
  · exact h.elim
 case mupd s x k v=>
  rw [he x (by simp),he k (by simp),he v (by simp)]
  split at h
  · rename_i id key e1 e2
    try simp only [e1,e2,S9]
    split at h
    · rename_i s' clk m em
      try simp only [em]
      refine ⟨h.1,h.2.1,h.2.2.1,?_⟩
      have h3:=h.2.2.2
      cases hk:m key with
      | some p=>rw [hk] at h3;exact ⟨_,a1i S st _,h3⟩
      | none=>rw [hk] at h3;exact ⟨_,a1i S st _,h3⟩
    · exact h.elim
  · exact h.elim
 case ment s z x k=>
  rw [he x (by simp),he k (by simp)]
  split at h
  · rename_i id key e1 e2
    try simp only [e1,e2,S9]
    split at h
    · rename_i s' clk m em
      try simp only [em]
      refine ⟨h.1,h.2.1,?_⟩
      have h3:=h.2.2
      cases hk:m key with
      | some p=>rw [hk] at h3;exact ⟨st,rfl,h3⟩
      | none=>rw [hk] at h3;exact ⟨_,a1i S st _,h3⟩
    · exact h.elim
  · exact h.elim
 case mest x b v=>
  rw [he x (by simp),he b (by simp),he v (by simp)]
  split at h
  · rename_i id n e1 e2
    try simp only [e1,e2,S9]
    split at h
    · rename_i s clk m em
      try simp only [em]
      obtain ⟨g1,key,p,g2,g3,g4⟩:=h
      exact ⟨g1,key,p,g2,g3,_,a1i S st _,g4⟩
    · exact h.elim
  · exact h.elim
 case plit E sz x=>
  rw [he x (by simp),S9]
  exact ⟨h.1,h.2.1,_,W6 S st _ _,h.2.2⟩
 case papp E sz bytes x y=>
  rw [he x (by simp),he y (by simp)]
  split at h
  · rename_i iy e1
    try simp only [e1,S9]
    split at h
    · rename_i Ey sy ny cy em
      try simp only [em]
      refine ⟨h.1,?_⟩
      have h:=h.2
      split at h
      · rename_i id e2
        try simp only [e2]
        split at h
        · rename_i E' sz' n c em2
          try simp only [em2]
          obtain ⟨g1,g2,g3,g4,g5,g6,g7⟩:=h
          exact ⟨g1,g2,g3,g4,g5,g6,_,W6 S st _ _,g7⟩
        · exact h.elim
      · rename_i z e2
        try simp only [e2]
        exact ⟨h.1,h.2.1,_,W6 S st _ _,h.2.2⟩
      · exact h.elim
    · exact h.elim
  · exact h.elim
 case plen x=>
  rw [he x (by simp)]
  split at h
  · rename_i id e1
    try simp only [e1,S9]
    split at h
    · rename_i E sz n c em
      try simp only [em]
      exact ⟨st,rfl,h⟩
    · exact h.elim
  · exact h.elim
 case piaddr sz x i=>
  rw [he x (by simp),he i (by simp)]
  split at h
  · rename_i id k j e1 e2
    try simp only [e1,e2,S9]
    split at h
    · rename_i E s n c em
      try simp only [em]
      exact ⟨h.1,h.2.1,h.2.2.1,st,rfl,h.2.2.2⟩
    · exact h.elim
  · exact h.elim
 case pload agg n x=>
  rw [he x (by simp)]
  split at h
  · rename_i id j s o e1
    try simp only [e1,S9]
    split at h
    · rename_i E sz nn c em
      try simp only [em]
      exact ⟨h.1,h.2.1,h.2.2.1,h.2.2.2.1,st,rfl,h.2.2.2.2⟩
    · exact h.elim
  · exact h.elim
 case pstore n a x=>
  rw [he a (by simp),he x (by simp)]
  refine ⟨h.1,?_⟩
  have h:=h.2
  split at h
  · rename_i id j s o e1
    try simp only [e1,S9]
    split at h
    · rename_i E sz nn c em
      try simp only [em]
      exact ⟨h.1,h.2.1,h.2.2.1,h.2.2.2.1,_,a1i S st _,h.2.2.2.2⟩
    · exact h.elim
  · exact h.elim
theorem b76 {S:Nat→Bool} {P:Program} {st:St} {d:Nat} {op:POp} {K:PV→St→Prop} {kx:RV→St→Prop} (ho:∀ x∈op.opds,∀ s,x=.t s→S s=false) (h:X1 P st d op K kx) :
 X1 P (Y0 S st) d op (fun p s=>∃ s2,s=Y0 S s2∧K p s2) (fun r s=>∃ s2,s=Y0 S s2∧kx r s2):=by
 have hag:Agree st (Y0 S st) op.opds:=b1l ho
 have hS:∀ op':POp,op'=op→V6 st op' (fun p=>K p st)→V6 (Y0 S st) op' (fun p=>∃ s2,Y0 S st=Y0 S s2∧K p s2):=fun op' e hh=>by
  subst e
  obtain ⟨r,h1,h2⟩:=(a11 _ _ _).1 hh
  exact (a9i hag _).2 ((a11 _ _ _).2 ⟨r,h1,st,rfl,h2⟩)
 have he:∀ x∈op.opds,ev (Y0 S st) x=ev st x:=hag.2
 cases op<;>simp only [X1] at h ⊢
 case xop o=>exact b5y ho h
 case alloc z=>exact ⟨_,W6 S st _ _,h⟩
 case box x=>
  rw [he x (by simp [POp.opds]),S9]
  exact ⟨h.1,h.2.1,_,W6 S st _ _,h.2.2⟩
 case build z parts=>
  refine (a5r (st:=st) (by simpa [POp.opds] using hag)).2 (b7k (fun cs hh=>⟨st,rfl,hh⟩) h)
 case lit E sz xs=>
  rw [a5s (st:=st) (by simpa [POp.opds] using hag)]
  split at h
  · rename_i rs e
    try simp only [e]
    exact ⟨_,W6 S st _ _,h⟩
  · exact h.elim
 case store n a x=>
  rw [he a (by simp [POp.opds]),he x (by simp [POp.opds])]
  refine ⟨h.1,?_⟩
  have h:=h.2
  split at h
  · rename_i id off e1
    try simp only [e1,S9]
    split at h
    · rename_i cs em
      try simp only [em]
      exact ⟨h.1,h.2.1,_,a1i S st _,h.2.2⟩
    · exact h.elim
  · rename_i id j s off e1
    try simp only [e1,S9]
    split at h
    · rename_i E sz xs em
      try simp only [em]
      split at h
      · rename_i rs ev
        try simp only [ev]
        exact ⟨h.1,h.2.1,h.2.2.1,h.2.2.2.1,_,a1i S st _,h.2.2.2.2⟩
      · exact h.elim
    · exact h.elim
  · exact h.elim
 case app E sz bytes x y=>
  rw [he x (by simp [POp.opds]),he y (by simp [POp.opds]),S9]
  split at h
  · exact h.elim
  · rename_i ys e
    try simp only [e]
    refine ⟨h.1,?_⟩
    have h:=h.2
    split at h
    · rename_i id e1
      try simp only [e1]
      split at h
      · rename_i E' sz' xs em
        try simp only [em]
        obtain ⟨g1,g2,g3,g4,g5,g6,g7⟩:=h
        exact ⟨g1,by rw [← e1];rw [← e1] at g2;exact g2,g3,g4,g5,g6,_,W6 S st _ _,g7⟩
      · exact h.elim
    · rename_i z e1
      try simp only [e1]
      exact ⟨h.1,h.2.1,_,W6 S st _ _,h.2.2⟩
    · exact h.elim
 case call f xs=>
  rw [a8v (fun x hx=>he x (by simp [POp.opds,hx]))]
  exact a7l h
 case callv x xs=>
  rw [he x (by simp [POp.opds]),a8v (fun y hy=>he y (by simp [POp.opds,hy]))]
  split at h
  · rename_i f caps e
    try simp only [e]
    exact ⟨h.1,a7l h.2⟩
  · exact h.elim
 case callr f x xs=>
  rw [he x (by simp [POp.opds]),a8v (fun y hy=>he y (by simp [POp.opds,hy])),S9]
  split at h
  · rename_i id e
    try simp only [e]
    split at h
    · rename_i E sz rs em
      try simp only [em]
      unfold b8c at h ⊢
      rw [S9]
      split at h
      · exact h.elim
      · rename_i as ea
        try simp only [ea]
        obtain ⟨h0,h1,h2,out,rs',h3,h4,h5⟩:=h
        exact ⟨h0,h1,h2,out,rs',h3,h4,_,a1i S st _,h5⟩
    · exact h.elim
  · rename_i e
    try simp only [e]
    exact a7l h
 case pan x=>
  rw [he x (by simp [POp.opds])]
  split at h
  · rename_i t r e
    try simp only [e]
    exact ⟨st,rfl,h⟩
  · exact h.elim
 case mks E sz bytes agg z x=>
  rw [he x (by simp [POp.opds])]
  split at h
  · rename_i k n zs e1 e2
    try simp only [e1,e2]
    exact ⟨h.1,h.2.1,h.2.2.1,_,W6 S st _ _,h.2.2.2⟩
  · exact h.elim
 case isnil iface neg x=>
  rw [he x (by simp [POp.opds])]
  split at h
  · rename_i e;(try simp only [e]);exact ⟨st,rfl,h⟩
  · rename_i e;(try simp only [e]);exact ⟨st,rfl,h⟩
  · rename_i e;(try simp only [e]);exact ⟨st,rfl,h⟩
  · rename_i e;(try simp only [e]);exact ⟨fun e'=>⟨st,rfl,h.1 e'⟩,st,rfl,h.2⟩
  · rename_i e
    try simp only [e,S9]
    split at h
    · rename_i em;(try simp only [em]);exact ⟨fun e'=>⟨st,rfl,h.1 e'⟩,st,rfl,h.2⟩
    · exact h.elim
  · exact h.elim
 all_goals exact hS _ rfl h
def hit (st:St) (d:Option Nat) (q:PV):Prop:=match d with
 | some d=>q=st.env d
 | none=>True
def a5o (P:Program) (o:POper) (st:St):Prop:=U7 st o.g (a0g P st o.op (hit st o.dst)) (hit st o.dst .skip)
def a47 (P:Program):List (Nat×POper)→St→Prop
 | [],_=>True
 | k :: D,st=>a5o P k.2 st∧a47 P D st
def V1 (ws:List Nat) (D:List (Nat×POper)):List (Nat×POper):=D.filter fun k=>ws.contains k.1
def a05 (P:Program):POM→List (Nat×POper)→St→(St→Prop)→(RV→St→Prop)→Prop
 | .done,_,st,K,_=>K st
 | .early i o t,D,st,K,kx=>U7 st o.g (a0g P st o.op fun p=>a05 P t ((i,o) :: D) (T7 st o.dst p) K kx) (a05 P t ((i,o) :: D) (T7 st o.dst .skip) K kx)
 | .step _ o ws t,D,st,K,kx=>U7 st o.g (X1 P st (o.dst.getD 0) o.op (fun p st'=>a47 P (V1 ws D) (T7 st' o.dst p)∧a05 P t (V1 ws D) (T7 st' o.dst p) K kx) fun r s=>kx r ⟨fun _=>.undef,s.mem⟩)
  (a47 P (V1 ws D) (T7 st o.dst .skip)∧a05 P t (V1 ws D) (T7 st o.dst .skip) K kx)
 | .alt _ o ws t r,D,st,K,kx=>U7 st o.g (X1 P st (o.dst.getD 0) o.op (fun p st'=>a47 P (V1 ws D) (T7 st' o.dst p)∧a05 P t (V1 ws D) (T7 st' o.dst p) K kx) fun r s=>kx r ⟨fun _=>.undef,s.mem⟩)
  (a47 P (V1 ws D) (T7 st o.dst .skip)∧a05 P t (V1 ws D) (T7 st o.dst .skip) K kx)∧a05 P r D st K kx
 | .stop,_,_,_,_=>True
def POM.heads:POM→List Nat
 | .alt i _ _ _ r=>i :: r.heads
 | _=>[]
theorem c1j {P:Program} {D:List (Nat×POper)} {st:St}:a47 P D st↔∀ k∈D,a5o P k.2 st:=by
 induction D with
 | nil=>simp [a47]
 | cons k D ih=>simp [a47,ih]
def a1u (d:Option Nat) (l:List Nat):Bool:=match d with
 | some d=>l.contains d
 | none=>false
def a61 (a b:Option Nat):Bool:=match a with
 | some d=>b == some d
 | none=>false
def b4p (P:Program) (n:Nat) (ops:Array Oper) (i:Nat) (o:POper):Bool:=match ops[i]? with
 | some x=>a7i P n ops x o
 | none=>false
mutual
def b0d (P:Program) (n f:Nat) (ops:Array Oper):POM→Array Bool→List (Nat×POper)→Bool
 | .done,l,_=>(Region.ready .any ops l).isEmpty
 | .early i o t,l,D=>(Region.ready .any ops l).contains i && b4p P n ops i o && !a1u o.dst (Y3 o) &&
  D.all (fun k=>!a1u o.dst (Y3 k.2) && !a61 o.dst k.2.dst && (!a1u k.2.dst (Y3 o) || a6n ops f i k.1)) && b0d P n f ops t (l.setIfInBounds i true) ((i,o) :: D)
 | .step i o ws t,l,D=>Region.ready .any ops l == [i] && b4p P n ops i o &&
  D.all (fun k=>if ws.contains k.1 then !a1u o.dst (Y3 k.2) && !a61 o.dst k.2.dst && !a1u k.2.dst (Y3 o) else a6n ops f i k.1) && b0d P n f ops t (l.setIfInBounds i true) (V1 ws D)
 | .alt i o ws t r,l,D=>(Region.ready .any ops l).all (fun j=>j == i || r.heads.contains j) && (Region.ready .any ops l).contains i && b4p P n ops i o &&
  D.all (fun k=>if ws.contains k.1 then !a1u o.dst (Y3 k.2) && !a61 o.dst k.2.dst && !a1u k.2.dst (Y3 o) else a6n ops f i k.1) && b0d P n f ops t (l.setIfInBounds i true) (V1 ws D) && b5m P n f ops r l D
 | .stop,_,_=>false
def b5m (P:Program) (n f:Nat) (ops:Array Oper):POM→Array Bool→List (Nat×POper)→Bool
 | .alt i o ws t r,l,D=>(Region.ready .any ops l).contains i && b4p P n ops i o &&
  D.all (fun k=>if ws.contains k.1 then !a1u o.dst (Y3 k.2) && !a61 o.dst k.2.dst && !a1u k.2.dst (Y3 o) else a6n ops f i k.1) && b0d P n f ops t (l.setIfInBounds i true) (V1 ws D) && b5m P n f ops r l D
 | .stop,_,_=>true
 | _,_,_=>false
end
def b90 (P:Program) (n:Nat) (ops:Array Oper) (t:POM):Bool:=(List.range ops.size).all (fun j=>(a0r ops j).all fun e=>decide (e < j)) && b0d P n 12 ops t (Array.replicate ops.size false) []
section
variable {P:Program} {F:Ctx} {Q:Exit→Act→World→Prop} {ops:Array Oper}
structure MD (P:Program) (n f:Nat) (ops:Array Oper) (l:Array Bool) (D:List (Nat×POper)):Prop where
 op:∀ k∈D,b4p P n ops k.1 k.2=true
 listed:∀ k∈D,l.getD k.1 false=true
 self:∀ k∈D,∀ d,k.2.dst=some d→d∉Y3 k.2
 pair:∀ k∈D,∀ k'∈D,k.1≠k'.1→∀ d,k'.2.dst=some d→k.2.dst≠some d∧(d∈Y3 k.2→a6n ops f k.1 k'.1=true)
 uniq:∀ k∈D,∀ k'∈D,k.1=k'.1→k=k'
def SU (D:List (Nat×POper)) (U:Nat→Bool) (x:Nat):Bool:=D.any fun k=>U k.1 && k.2.dst == some x
theorem a3o {D:List (Nat×POper)} {U:Nat→Bool} {x:Nat}:SU D U x=true↔∃ k∈D,U k.1=true∧k.2.dst=some x:=by
 unfold SU
 simp only [List.any_eq_true,Bool.and_eq_true,beq_iff_eq]
structure MR (P:Program) (ops:Array Oper) (l lr:Array Bool) (D:List (Nat×POper)) (U:Nat→Bool) (st:St):Prop where
 size:lr.size=ops.size
 eq:∀ j,lr.getD j false=(l.getD j false && !U j)
 sub:∀ j,U j=true→∃ o,(j,o)∈D
 cl:a3p ops lr
 hold:∀ k∈D,U k.1=true→a5o P k.2 st
theorem a41 {l:Array Bool} {i:Nat} (hl:l.size=ops.size) (h:a3p ops l) (hi:i < ops.size) (hd:∀ e∈a0r ops i,l.getD e false=true):a3p ops (l.setIfInBounds i true):=fun j hj e he=>by
 rw [R7 (by omega)] at hj ⊢
 by_cases hei:e=i
 · rw [if_pos hei]
 · rw [if_neg hei]
   by_cases hji:j=i
   · subst hji;exact hd e he
   · rw [if_neg hji] at hj;exact h j hj e he
theorem a3j {st st':St} {g:Option (Nat×Bool)} {A B:Prop} (h:∀ s b,g=some (s,b)→st'.env s=st.env s):U7 st' g A B=U7 st g A B:=by
 cases g with
 | none=>rfl
 | some sb=>obtain ⟨s,b⟩:=sb;simp only [U7];rw [h s b rfl]
theorem a52 {o:POper} {x:Opd} {s:Nat} (hx:x∈o.op.opds) (h:x=.t s):s∈Y3 o:=by
 unfold Y3
 exact List.mem_append_left _ (List.mem_filterMap.2 ⟨x,hx,by rw [h]⟩)
theorem a2g {o:POper} {s:Nat} {b:Bool} (h:o.g=some (s,b)):s∈Y3 o:=by
 unfold Y3
 rw [h]
 exact List.mem_append_right _ (by simp)
theorem a9h {st:St} {op:POp} {K K':PV→Prop} (hK:∀ p,K p→K' p) (h:a0g P st op K):a0g P st op K':=by
 cases op<;>simp only [a0g] at h ⊢
 case build=>exact b7k (fun cs=>hK _) h
 case lit=>split at h<;>first | exact hK _ h | exact h
 case call=>exact a43 hK h
 case callv=>
  split at h
  · exact ⟨h.1,a43 hK h.2⟩
  · exact h
 case xop=>exact ⟨h.1,a2f (fun p _=>hK p) h.2⟩
 all_goals (obtain ⟨r,h1,h2⟩:=(a11 _ _ _).1 h;exact (a11 _ _ _).2 ⟨r,h1,hK r h2⟩)
theorem late {f:Nat} {l lr:Array Bool} {D:List (Nat×POper)} {U:Nat→Bool} {γ:Nat→Value} {st:St} {a:Act} {w:World} {j:Nat} {X:Act→World→Prop} (hD:MD P F.n f ops l D) (hR:MR P ops l lr D U st) (hI:Inv F γ (Y0 (SU D U) st) a w)
 (hU:U j=true) (hd:∀ e∈a0r ops j,lr.getD e false=true) (hX:∀ γ' a' w',Inv F γ' (Y0 (SU D fun x=>U x && x != j) st) a' w'→X a' w'):wpOp P ops Q j X a w:=by
 obtain ⟨o,ho⟩:=hR.sub j hU
 have hop:=hD.op _ ho
 unfold b4p at hop
 split at hop
 · rename_i x hx
   obtain ⟨g1,g2,g3,_⟩:=a1k hop
   have free:∀ s∈Y3 o,SU D U s=false:=fun s hs=>by
    cases hsu:SU D U s with
    | false=>rfl
    | true=>
     obtain ⟨k',hk',hu,hdst⟩:=a3o.1 hsu
     by_cases he:j=k'.1
     · have:=hD.uniq _ ho _ hk' he
       subst this
       exact absurd hs (hD.self _ ho s hdst)
     · have:=(hD.pair _ ho _ hk' he s hdst).2 hs
       have hb:=a1h hR.cl f j k'.1 hd this
       rw [hR.eq,hu] at hb
       simp at hb
   have hag:Agree st (Y0 (SU D U) st) o.op.opds:=b1l fun y hy s he=>free s (a52 hy he)
   have hh:=hR.hold _ ho hU
   unfold a5o at hh
   have hg:U7 (Y0 (SU D U) st) o.g (a0g P (Y0 (SU D U) st) o.op (hit st o.dst)) (hit st o.dst .skip):=by
    rw [a3j (st:=st) (fun s b hb=>by simp only [Y0];rw [free s (a2g hb)];rfl)]
    exact X7 hh (fun h=>(a3r hag _).2 h) (fun h=>h)
   have key:∀ q,hit st o.dst q→T7 (Y0 (SU D U) st) o.dst q=Y0 (SU D fun x=>U x && x != j) st:=fun q hq=>by
    have hset:∀ x,(∀ d,o.dst=some d→x≠d)→SU D (fun x=>U x && x != j) x=SU D U x:=fun x hx=>by
     rw [Bool.eq_iff_iff,a3o,a3o]
     constructor
     · rintro ⟨k,h1,h2,h3⟩
       simp only [Bool.and_eq_true] at h2
       exact ⟨k,h1,h2.1,h3⟩
     · rintro ⟨k,h1,h2,h3⟩
       refine ⟨k,h1,?_,h3⟩
       simp only [Bool.and_eq_true,bne_iff_ne]
       refine ⟨h2,fun he=>?_⟩
       have:=hD.uniq _ h1 _ ho he
       subst this
       exact hx x h3 rfl
    cases hdst:o.dst with
    | none=>
     simp only [T7,Y0,St.mk.injEq,and_true]
     funext x
     rw [hset x (fun d hd'=>by rw [hdst] at hd';cases hd')]
    | some d=>
     rw [hdst] at hq
     simp only [hit] at hq
     subst hq
     simp only [T7,St.set,Y0,St.mk.injEq,and_true]
     funext x
     by_cases hx:x=d
     · subst hx
       rw [R4]
       have:SU D (fun y=>U y && y != j) x=false:=by
        cases hsu:SU D (fun y=>U y && y != j) x with
        | false=>rfl
        | true=>
         obtain ⟨k',hk',hu,hd'⟩:=a3o.1 hsu
         simp only [Bool.and_eq_true,bne_iff_ne] at hu
         exact absurd hd' (hD.pair _ hk' _ ho hu.2 x hdst).1
       rw [this];rfl
     · rw [R0 _ _ _ _ hx,hset x (fun d' hd'=>by rw [hdst] at hd';cases hd';exact hx)]
   unfold wpOp
   rw [hx]
   refine a2l hI hop hg (fun hy=>.inl ?_) (fun hn=>?_)
   · obtain ⟨q,h1,h2⟩:=b05 hy
     refine a9g hI g1 h1 fun γ' v w' hI' hv=>hX γ' _ w' ?_
     rw [g2,← key q h2]
     exact a1t hI' g3 hv
   · refine hX γ _ w ?_
     rw [g2,← key .skip hn]
     exact a1t hI g3 .skip
 · cases hop
theorem b1d {l lr:Array Bool} {D:List (Nat×POper)} {U:Nat→Bool} {st:St} (hl:l.size=ops.size) (hR:MR P ops l lr D U st) {i:Nat} (hi:i∈Region.ready .any ops lr) (hU:U i=false):i∈Region.ready .any ops l:=by
 obtain ⟨h1,h2,h3⟩:=(T0 hR.size).1 hi
 refine (T0 hl).2 ⟨h1,?_,fun e he=>?_⟩
 · rw [hR.eq,hU] at h2;simpa using h2
 · have:=h3 e he
   rw [hR.eq] at this
   simp only [Bool.and_eq_true] at this
   exact this.1
theorem a4r {f:Nat} {l lr:Array Bool} {D:List (Nat×POper)} {U:Nat→Bool} {st:St} (hcl:a3p ops l) (hback:∀ j,j < ops.size→∀ e∈a0r ops j,e < j) (hD:MD P F.n f ops l D) (hR:MR P ops l lr D U st) {j:Nat} (hU:U j=true):Region.ready .any ops lr≠[]:=by
 obtain ⟨k,hk,hmin⟩:=least (p:=fun j=>U j=true) j hU
 obtain ⟨o,ho⟩:=hR.sub k hk
 have hop:=hD.op _ ho
 have hsz:k < ops.size:=by
  unfold b4p at hop
  split at hop
  · rename_i x hx;exact (Array.getElem?_eq_some_iff.1 hx).1
  · cases hop
 have:k∈Region.ready .any ops lr:=(T0 hR.size).2 ⟨hsz,by rw [hR.eq,hk];simp,fun e he=>by
  have h1:=hcl k (hD.listed _ ho) e he
  have h2:=hmin e (hback k hsz e he)
  rw [hR.eq,h1]
  simpa using h2⟩
 exact fun h=>by rw [h] at this;cases this
theorem a8u {D:List (Nat×POper)} {U:Nat→Bool} (h:∀ j,U j=false) (st:St):Y0 (SU D U) st=st:=by
 have:SU D U=fun _=>false:=by
  funext x
  cases hs:SU D U x with
  | false=>rfl
  | true=>
   obtain ⟨k,_,hu,_⟩:=a3o.1 hs
   rw [h] at hu;cases hu
 rw [this];rfl
theorem MR.late {l lr:Array Bool} {D:List (Nat×POper)} {U:Nat→Bool} {st:St} (hR:MR P ops l lr D U st) {j:Nat} (hj:j < ops.size) (hU:U j=true) (hlj:l.getD j false=true) (hd:∀ e∈a0r ops j,lr.getD e false=true) :
 MR P ops l (lr.setIfInBounds j true) D (fun x=>U x && x != j) st:=by
 have hs:=hR.size
 refine ⟨by simpa using hs,fun x=>?_,fun x hx=>?_,a41 hs hR.cl hj hd,fun k hk hu=>?_⟩
 · rw [R7 (by omega),hR.eq]
   by_cases hx:x=j
   · subst hx;simp [hlj]
   · have h2:(x != j)=true:=by simpa using hx
     simp only [hx,if_false,h2,Bool.and_true]
 · simp only [Bool.and_eq_true] at hx;exact hR.sub x hx.1
 · simp only [Bool.and_eq_true] at hu;exact hR.hold k hk hu.1
def MainM (P:Program) (F:Ctx) (Q:Exit→Act→World→Prop) (ops:Array Oper) (f:Nat) (K:St→Prop) (kx:RV→St→Prop) (t:POM):Prop:=
 ∀ (l:Array Bool) (D:List (Nat×POper)),l.size=ops.size→a3p ops l→b0d P F.n f ops t l D=true→MD P F.n f ops l D →
  ∀ (fuel:Nat) (U:Nat→Bool) (lr:Array Bool) (γ:Nat→Value) (st:St) (a:Act) (w:World),MR P ops l lr D U st→Inv F γ (Y0 (SU D U) st) a w→a05 P t D st K kx→left ops lr≤fuel→wpAny P .any ops Q fuel lr a w
def AltM (P:Program) (F:Ctx) (Q:Exit→Act→World→Prop) (ops:Array Oper) (f:Nat) (K:St→Prop) (kx:RV→St→Prop) (t:POM):Prop:=
 ∀ (l:Array Bool) (D:List (Nat×POper)),l.size=ops.size→a3p ops l→b5m P F.n f ops t l D=true→MD P F.n f ops l D →
  ∀ (fuel:Nat) (U:Nat→Bool) (lr:Array Bool) (γ:Nat→Value) (st:St) (a:Act) (w:World),MR P ops l lr D U st→Inv F γ (Y0 (SU D U) st) a w→a05 P t D st K kx→left ops lr≤fuel+1 →
   ∀ i∈t.heads,i∈Region.ready .any ops lr→U i=false→wpOp P ops Q i (fun a w=>wpAny P .any ops Q fuel (lr.setIfInBounds i true) a w) a w
theorem stepM {f:Nat} {K:St→Prop} {kx:RV→St→Prop} {t:POM} (hQx:∀ γ st a w r v,Inv F γ st a w→RepR (K3 F.L γ st.mem) w r v→kx r st→Q (.panic [{ v,recovered:=false }]) a w) (iht:MainM P F Q ops f K kx t) {i:Nat} {o:POper} {ws:List Nat} {l:Array Bool} {D:List (Nat×POper)} (hl:l.size=ops.size) (hcl:a3p ops l) (hi0:i∈Region.ready .any ops l) (hop:b4p P F.n ops i o=true)
 (hall:∀ k∈D,(if ws.contains k.1=true then !a1u o.dst (Y3 k.2) && !a61 o.dst k.2.dst && !a1u k.2.dst (Y3 o) else a6n ops f i k.1)=true) (hc2:b0d P F.n f ops t (l.setIfInBounds i true) (V1 ws D)=true) (hD:MD P F.n f ops l D)
 {fuel:Nat} {U:Nat→Bool} {lr:Array Bool} {γ:Nat→Value} {st:St} {a:Act} {w:World} (hR:MR P ops l lr D U st) (hI:Inv F γ (Y0 (SU D U) st) a w)
 (hK:U7 st o.g (X1 P st (o.dst.getD 0) o.op (fun p st'=>a47 P (V1 ws D) (T7 st' o.dst p)∧a05 P t (V1 ws D) (T7 st' o.dst p) K kx) fun r s=>kx r ⟨fun _=>.undef,s.mem⟩) (a47 P (V1 ws D) (T7 st o.dst .skip)∧a05 P t (V1 ws D) (T7 st o.dst .skip) K kx))
 (hf:left ops lr≤fuel+1) (hi:i∈Region.ready .any ops lr) (hu:U i=false):wpOp P ops Q i (fun a w=>wpAny P .any ops Q fuel (lr.setIfInBounds i true) a w) a w:=by
 obtain ⟨r1,r2,r3⟩:=(T0 hl).1 hi0
 have hD':MD P F.n f ops (l.setIfInBounds i true) (V1 ws D):=by
  have sub:∀ k∈V1 ws D,k∈D:=fun k hk=>(List.mem_filter.1 hk).1
  exact ⟨fun k hk=>hD.op k (sub k hk),fun k hk=>by
   rw [R7 (by omega)]
   split
   · rfl
   · exact hD.listed k (sub k hk),fun k hk=>hD.self k (sub k hk),fun k hk k' hk'=>hD.pair k (sub k hk) k' (sub k' hk'),fun k hk k' hk'=>hD.uniq k (sub k hk) k' (sub k' hk')⟩
 obtain ⟨h1,h2,h3⟩:=(T0 hR.size).1 hi
 have hlt:=a1o hR.size hi
 have inW:∀ k∈D,U k.1=true→k∈V1 ws D∧a1u o.dst (Y3 k.2)=false∧a61 o.dst k.2.dst=false∧a1u k.2.dst (Y3 o)=false:=fun k hk hku=>by
  have:=hall k hk
  by_cases hw:ws.contains k.1=true
  · rw [if_pos hw] at this
    simp only [Bool.and_eq_true,Bool.not_eq_true'] at this
    exact ⟨List.mem_filter.2 ⟨hk,hw⟩,this.1.1,this.1.2,this.2⟩
  · rw [if_neg hw] at this
    have hb:=a1h hR.cl f i k.1 h3 this
    rw [hR.eq,hku] at hb
    simp at hb
 have hSU:SU (V1 ws D) U=SU D U:=by
  funext x
  rw [Bool.eq_iff_iff,a3o,a3o]
  constructor
  · rintro ⟨k,g1,g2,g3⟩;exact ⟨k,(List.mem_filter.1 g1).1,g2,g3⟩
  · rintro ⟨k,g1,g2,g3⟩;exact ⟨k,(inW k g1 g2).1,g2,g3⟩
 have hfree:∀ s∈Y3 o,SU D U s=false:=fun s hs=>by
  cases hsu:SU D U s with
  | false=>rfl
  | true=>
   obtain ⟨k,g1,g2,g3⟩:=a3o.1 hsu
   have:=(inW k g1 g2).2.2.2
   rw [g3] at this;simp only [a1u] at this
   simp at this;exact absurd hs this
 have hdst:∀ d,o.dst=some d→SU D U d=false:=fun d hd=>by
  cases hsu:SU D U d with
  | false=>rfl
  | true=>
   obtain ⟨k,g1,g2,g3⟩:=a3o.1 hsu
   have:=(inW k g1 g2).2.2.1
   rw [hd,g3] at this;simp [a61] at this
 have hset:∀ (s2:St) (p:PV),T7 (Y0 (SU D U) s2) o.dst p=Y0 (SU (V1 ws D) U) (T7 s2 o.dst p):=fun s2 p=>by
  rw [hSU]
  cases hd:o.dst with
  | none=>rfl
  | some d=>
   simp only [T7,St.set,Y0,St.mk.injEq,and_true]
   funext x
   by_cases hx:x=d
   · subst hx;rw [R4,hdst x hd,R4];rfl
   · rw [R0 _ _ _ _ hx,R0 _ _ _ _ hx]
 have fin:∀ (γ':Nat→Value) (s2:St) (p:PV) (a':Act) (w':World),Inv F γ' (T7 (Y0 (SU D U) s2) o.dst p) a' w'→a47 P (V1 ws D) (T7 s2 o.dst p)→a05 P t (V1 ws D) (T7 s2 o.dst p) K kx→wpAny P .any ops Q fuel (lr.setIfInBounds i true) a' w':=fun γ' s2 p a' w' hI' hw hK'=>by
  rw [hset] at hI'
  refine iht (l.setIfInBounds i true) (V1 ws D) (by simpa using hl) (a41 hl hcl r1 r3) hc2 hD' fuel U (lr.setIfInBounds i true) γ' (T7 s2 o.dst p) a' w' ⟨by simpa using hR.size,fun j=>?_,fun j hj=>?_,a41 hR.size hR.cl h1 h3,fun k hk _=>c1j.1 hw k hk⟩ hI' hK' (by omega)
  · rw [R7 (by rw [hR.size];exact h1),R7 (by omega),hR.eq]
    by_cases hj:j=i
    · subst hj;simp [hu]
    · simp [hj]
  · obtain ⟨o',ho'⟩:=hR.sub j hj
    exact ⟨o',(inW _ ho' hj).1⟩
 unfold b4p at hop
 split at hop
 · rename_i x hx
   obtain ⟨g1,g2,g3,_⟩:=a1k hop
   unfold wpOp
   rw [hx]
   have hge:∀ A B:Prop,U7 (Y0 (SU D U) st) o.g A B=U7 st o.g A B:=fun A B=>a3j (fun s b hb=>by simp only [Y0];rw [hfree s (a2g hb)];rfl)
   have hg:=(hge _ _).symm ▸ hK
   refine a2l hI hop hg (fun hy=>.inl ?_) (fun hn=>?_)
   · have hy':=b76 (S:=SU D U) (fun y hy s he=>hfree s (a52 hy he)) hy
     refine a4p (by cases hd:o.dst with | none=>simp | some x=>(have:=g3 x hd;have:=hI.fr.hn;simp;omega)) hI g1 hy' ⟨fun γ' st' q v w' hI' hq hK'=>?_,fun γ' st' r v w' hI' hr hk=>(let ⟨s2,e,h⟩:=hk;by subst e;exact hQx γ' ⟨fun _=>.undef,s2.mem⟩ _ w' r v ⟨hI'.sz,hI'.df,fun x=>.undef _,hI'.mem,hI'.fr,hI'.gl,hI'.pin,hI'.pinr,hI'.pinn⟩ hr h)⟩
     obtain ⟨s2,rfl,hw,hK2⟩:=hK'
     exact fin γ' s2 q _ w' (by rw [g2];exact a1t hI' g3 hq) hw hK2
   · exact fin γ st .skip _ w (by rw [g2];exact a1t hI g3 .skip) hn.1 hn.2
 · cases hop
theorem b8s {f:Nat} {K:St→Prop} {kx:RV→St→Prop} (hQ:∀ γ st a w,Inv F γ st a w→K st→Q .normal a w) (hQx:∀ γ st a w r v,Inv F γ st a w→RepR (K3 F.L γ st.mem) w r v→kx r st→Q (.panic [{ v,recovered:=false }]) a w) (hback:∀ j,j < ops.size→∀ e∈a0r ops j,e < j) :
 ∀ (t:POM),MainM P F Q ops f K kx t∧AltM P F Q ops f K kx t:=by
 intro t
 induction t with
 | done=>
  refine ⟨?_,fun l D hl hcl hc=>by simp [b5m] at hc⟩
  intro l D hl hcl hc hD fuel
  have hc0:Region.ready .any ops l=[]:=by simpa [b0d] using hc
  have hall:∀ {U lr st},MR P ops l lr D U st→∀ i∈Region.ready .any ops lr,U i=true:=fun {U lr st} hR i hi=>by
   cases hu:U i with
   | true=>rfl
   | false=>have:=b1d hl hR hi hu;rw [hc0] at this;cases this
  induction fuel with
  | zero=>
   intro U lr γ st a w hR hI hK hf
   have h0:Region.ready .any ops lr=[]:=by
    cases hr:Region.ready .any ops lr with
    | nil=>rfl
    | cons i r=>
     have:=a1o hR.size (i:=i) (by rw [hr];simp)
     omega
   refine ⟨h0,hQ γ st a w ?_ hK⟩
   have:∀ j,U j=false:=fun j=>by
    cases hu:U j with
    | false=>rfl
    | true=>exact absurd h0 (a4r hcl hback hD hR hu)
   rwa [a8u this] at hI
  | succ fuel ih=>
   intro U lr γ st a w hR hI hK hf
   refine ⟨fun h0=>hQ γ st a w ?_ hK,fun i hi=>?_⟩
   · have:∀ j,U j=false:=fun j=>by
      cases hu:U j with
      | false=>rfl
      | true=>exact absurd h0 (a4r hcl hback hD hR hu)
     rwa [a8u this] at hI
   · have hu:=hall hR i hi
     obtain ⟨h1,h2,h3⟩:=(T0 hR.size).1 hi
     obtain ⟨o,ho⟩:=hR.sub i hu
     have hlt:=a1o hR.size hi
     exact Go.PW.late hD hR hI hu h3 fun γ' a' w' hI'=>ih _ _ γ' st a' w' (hR.late h1 hu (hD.listed _ ho) h3) hI' hK (by omega)
 | early i o t iht=>
  refine ⟨?_,fun l D hl hcl hc=>by simp [b5m] at hc⟩
  replace iht:=iht.1
  intro l D hl hcl hc hD fuel U lr γ st a w hR hI hK hf
  simp only [b0d,Bool.and_eq_true,List.contains_iff_mem,Bool.not_eq_true',List.all_eq_true,Bool.or_eq_true] at hc
  obtain ⟨⟨⟨⟨hri,hop⟩,hself⟩,hall⟩,hc2⟩:=hc
  obtain ⟨r1,r2,r3⟩:=(T0 hl).1 hri
  have hnotin:∀ k∈D,k.1≠i:=fun k hk he=>by
   have:=hD.listed k hk
   rw [he,r2] at this;cases this
  have hUi:U i=false:=by
   cases hu:U i with
   | false=>rfl
   | true=>
    obtain ⟨o',ho'⟩:=hR.sub i hu
    exact absurd rfl (hnotin _ ho')
  have hD':MD P F.n f ops (l.setIfInBounds i true) ((i,o) :: D):=by
   refine ⟨fun k hk=>?_,fun k hk=>?_,fun k hk d hd=>?_,fun k hk k' hk' hne d hd=>?_,fun k hk k' hk' he=>?_⟩
   · rcases List.mem_cons.1 hk with rfl | hk
     · exact hop
     · exact hD.op k hk
   · rw [R7 (by omega)]
     split
     · rfl
     · rename_i hne
       rcases List.mem_cons.1 hk with rfl | hk
       · exact absurd rfl hne
       · exact hD.listed k hk
   · rcases List.mem_cons.1 hk with rfl | hk
     · rw [hd] at hself;simp only [a1u] at hself
       simpa using hself
     · exact hD.self k hk d hd
   · rcases List.mem_cons.1 hk with rfl | hk<;>rcases List.mem_cons.1 hk' with rfl | hk'
     · exact absurd rfl hne
     · obtain ⟨⟨_,h2⟩,h3⟩:=hall _ hk'
       refine ⟨fun he=>?_,fun hs=>?_⟩
       · rw [he] at h2;simp only [a61] at h2
         rw [hd] at h2;simp at h2
       · rcases h3 with h3 | h3
         · rw [hd] at h3;simp only [a1u] at h3
           simp at h3;exact absurd hs h3
         · exact h3
     · obtain ⟨⟨h1,h2⟩,_⟩:=hall _ hk
       refine ⟨fun he=>?_,fun hs=>?_⟩
       · rw [hd] at h2;simp only [a61] at h2
         rw [he] at h2;simp at h2
       · rw [hd] at h1;simp only [a1u] at h1
         simp at h1;exact absurd hs h1
     · exact hD.pair k hk k' hk' hne d hd
   · rcases List.mem_cons.1 hk with rfl | hk<;>rcases List.mem_cons.1 hk' with rfl | hk'
     · rfl
     · exact absurd he.symm (hnotin _ hk')
     · exact absurd he (hnotin _ hk)
     · exact hD.uniq k hk k' hk' he
  have go:∀ p,(a5o P o (T7 st o.dst p))→a05 P t ((i,o) :: D) (T7 st o.dst p) K kx→wpAny P .any ops Q fuel lr a w:=fun p hh hK'=>by
   have hU':∀ x,SU ((i,o) :: D) (fun x=>U x || x == i) x=(SU D U x || o.dst == some x):=fun x=>by
    rw [Bool.eq_iff_iff,a3o,Bool.or_eq_true,a3o,beq_iff_eq]
    constructor
    · rintro ⟨k,h1,h2,h3⟩
      rcases List.mem_cons.1 h1 with rfl | h1
      · exact .inr h3
      · simp only [Bool.or_eq_true,beq_iff_eq] at h2
        rcases h2 with h2 | h2
        · exact .inl ⟨k,h1,h2,h3⟩
        · exact absurd h2 (hnotin k h1)
    · rintro (⟨k,h1,h2,h3⟩ | h)
      · exact ⟨k,List.mem_cons_of_mem _ h1,by simp [h2],h3⟩
      · exact ⟨(i,o),by simp,by simp,h⟩
   have hmem:(T7 st o.dst p).mem=st.mem:=by cases o.dst<;>rfl
   have henv:∀ x,o.dst≠some x→(T7 st o.dst p).env x=st.env x:=fun x hx=>by
    cases hd:o.dst with
    | none=>rfl
    | some d=>
     simp only [T7,St.set]
     rw [R0]
     rintro rfl
     exact hx hd
   refine iht (l.setIfInBounds i true) ((i,o) :: D) (by simpa using hl) (a41 hl hcl r1 r3) hc2 hD' fuel (fun x=>U x || x == i) lr γ (T7 st o.dst p) a w ⟨hR.size,fun j=>?_,fun j hj=>?_,hR.cl,fun k hk hu=>?_⟩ ?_ hK' hf
   · rw [R7 (by omega),hR.eq]
     by_cases hj:j=i
     · subst hj;simp [r2]
     · have h2:(j == i)=false:=by simpa using hj
       simp only [hj,if_false,h2,Bool.or_false]
   · simp only [Bool.or_eq_true,beq_iff_eq] at hj
     rcases hj with hj | rfl
     · obtain ⟨o',ho'⟩:=hR.sub j hj
       exact ⟨o',List.mem_cons_of_mem _ ho'⟩
     · exact ⟨o,by simp⟩
   · rcases List.mem_cons.1 hk with rfl | hk
     · exact hh
     · have hu':U k.1=true:=by
        simp only [Bool.or_eq_true,beq_iff_eq] at hu
        rcases hu with hu | hu
        · exact hu
        · exact absurd hu (hnotin k hk)
       obtain ⟨⟨h1,h2⟩,_⟩:=hall _ hk
       have hold:=hR.hold k hk hu'
       have hs:∀ s∈Y3 k.2,o.dst≠some s:=fun s hs he=>by
        rw [he] at h1;simp only [a1u] at h1
        simp at h1;exact h1 hs
       have hne:∀ d,k.2.dst=some d→o.dst≠some d:=fun d hd he=>by
        rw [he] at h2;simp only [a61] at h2
        rw [hd] at h2;simp at h2
       have hhit:∀ q,hit (T7 st o.dst p) k.2.dst q=hit st k.2.dst q:=fun q=>by
        cases hd:k.2.dst with
        | none=>rfl
        | some d=>simp only [hit];rw [henv d (hne d hd)]
       have hag:Agree st (T7 st o.dst p) k.2.op.opds:=⟨hmem,fun y hy=>by
        cases y with
        | t s=>simp only [ev];exact henv s (hs s (a52 hy rfl))
        | k q=>rfl⟩
       unfold a5o at hold ⊢
       rw [a3j (st:=st) (fun s b hb=>henv s (hs s (a2g hb))),hhit]
       refine X7 hold (fun h=>(a3r hag _).2 ?_) (fun h=>h)
       exact a9h (fun q hq=>by rw [hhit];exact hq) h
   · refine ⟨hI.sz,hI.df,fun x=>?_,?_,hI.fr,?_,?_,?_,?_⟩
     · have hx:=hI.env x
       show RepP γ (K3 F.L γ (T7 st o.dst p).mem) w (if SU ((i,o) :: D) (fun x=>U x || x == i) x=true then .undef else (T7 st o.dst p).env x) _
       rw [hU',hmem]
       by_cases h1:o.dst=some x
       · simp only [h1,beq_self_eq_true,Bool.or_true,if_true];exact .undef _
       · rw [henv x h1]
         have h2:(o.dst == some x)=false:=by simpa using h1
         rw [h2,Bool.or_false]
         exact hx
     · have:=hI.mem
       simp only [S9] at this ⊢
       rw [hmem];exact this
     · have:=hI.gl
       simp only [S9] at this ⊢
       rw [hmem];exact this
     · have:=hI.pin
       simp only [S9] at this ⊢
       rw [hmem];exact this
     · have:=hI.pinr
       simp only [S9] at this ⊢
       rw [hmem];exact this
     · have:=hI.pinn
       simp only [S9] at this ⊢
       rw [hmem];exact this
  have hsl:∀ s∈Y3 o,o.dst≠some s:=fun s hs he=>by
   rw [he] at hself;simp only [a1u] at hself
   simp at hself;exact hself hs
  have henv:∀ p x,o.dst≠some x→(T7 st o.dst p).env x=st.env x:=fun p x hx=>by
   cases hd:o.dst with
   | none=>rfl
   | some d=>
    simp only [T7,St.set]
    rw [R0]
    rintro rfl
    exact hx hd
  have hh1:∀ p,hit (T7 st o.dst p) o.dst p:=fun p=>by
   cases hd:o.dst with
   | none=>trivial
   | some d=>simp only [hit,T7,St.set];rw [R4]
  have hag:∀ p,Agree st (T7 st o.dst p) o.op.opds:=fun p=>⟨by cases o.dst<;>rfl,fun y hy=>by
   cases y with
   | t s=>simp only [ev];exact henv p s (hsl s (a52 hy rfl))
   | k q=>rfl⟩
  simp only [a05] at hK
  rcases b33 hK with ⟨h1,h2⟩ | ⟨h1,h2⟩
  · obtain ⟨p,g1,g2⟩:=b05 h1
    refine go p ?_ g2
    unfold a5o
    rw [a3j (st:=st) (fun s b hb=>henv p s (hsl s (a2g hb)))]
    exact h2 _ _ ((a3r (hag p) _).2 (a9h (fun q hq=>by rw [hq];exact hh1 p) g1))
  · refine go .skip ?_ h1
    unfold a5o
    rw [a3j (st:=st) (fun s b hb=>henv .skip s (hsl s (a2g hb)))]
    exact h2 _ _ (hh1 .skip)
 | step i0 o ws t iht=>
  refine ⟨?_,fun l D hl hcl hc=>by simp [b5m] at hc⟩
  intro l D hl hcl hc hD fuel
  simp only [b0d,Bool.and_eq_true,beq_iff_eq,List.all_eq_true] at hc
  obtain ⟨⟨⟨hri,hop⟩,hall⟩,hc2⟩:=hc
  have hi0:i0∈Region.ready .any ops l:=by rw [hri];simp
  obtain ⟨r1,r2,r3⟩:=(T0 hl).1 hi0
  have nonempty:∀ {U lr st},MR P ops l lr D U st→Region.ready .any ops lr≠[]:=fun {U lr st} hR=>by
   by_cases hu:∃ j,U j=true
   · obtain ⟨j,hj⟩:=hu
     exact a4r hcl hback hD hR hj
   · have hnu:∀ j,U j=false:=fun j=>by
      cases h:U j with
      | false=>rfl
      | true=>exact absurd ⟨j,h⟩ hu
     have:i0∈Region.ready .any ops lr:=(T0 hR.size).2 ⟨r1,by rw [hR.eq,r2];rfl,fun e he=>by rw [hR.eq,r3 e he,hnu];rfl⟩
     exact fun h=>by rw [h] at this;cases this
  induction fuel with
  | zero=>
   intro U lr γ st a w hR hI hK hf
   exfalso
   cases hr:Region.ready .any ops lr with
   | nil=>exact nonempty hR hr
   | cons i r=>
    have:=a1o hR.size (i:=i) (by rw [hr];simp)
    omega
  | succ fuel ih=>
   intro U lr γ st a w hR hI hK hf
   refine ⟨fun h0=>absurd h0 (nonempty hR),fun i hi=>?_⟩
   obtain ⟨h1,h2,h3⟩:=(T0 hR.size).1 hi
   have hlt:=a1o hR.size hi
   cases hu:U i with
   | true=>
    obtain ⟨o',ho'⟩:=hR.sub i hu
    exact Go.PW.late hD hR hI hu h3 fun γ' a' w' hI'=>ih _ _ γ' st a' w' (hR.late h1 hu (hD.listed _ ho') h3) hI' hK (by omega)
   | false=>
    have hii:i=i0:=by
     have:=b1d hl hR hi hu
     rw [hri] at this
     simpa using this
    subst hii
    simp only [a05] at hK
    exact stepM hQx iht.1 hl hcl hi0 hop hall hc2 hD hR hI hK hf hi hu
 | stop=>exact ⟨fun l D hl hcl hc=>by simp [b0d] at hc,fun l D hl hcl hc hD fuel U lr γ st a w hR hI hK hf i hi=>by simp [POM.heads] at hi⟩
 | alt i0 o ws t r iht ihr=>
  have two:AltM P F Q ops f K kx (.alt i0 o ws t r):=by
   intro l D hl hcl hc hD fuel U lr γ st a w hR hI hK hf i hi hr hu
   simp only [b5m,Bool.and_eq_true,List.all_eq_true] at hc
   obtain ⟨⟨⟨⟨hi0,hop⟩,hall⟩,hc2⟩,hc3⟩:=hc
   replace hi0:=List.contains_iff_mem.1 hi0
   simp only [a05] at hK
   simp only [POM.heads,List.mem_cons] at hi
   rcases hi with rfl | hi
   · exact stepM hQx iht.1 hl hcl hi0 hop hall hc2 hD hR hI hK.1 hf hr hu
   · exact ihr.2 l D hl hcl hc3 hD fuel U lr γ st a w hR hI hK.2 hf i hi hr hu
  refine ⟨?_,two⟩
  intro l D hl hcl hc hD fuel
  simp only [b0d,Bool.and_eq_true,List.all_eq_true] at hc
  obtain ⟨⟨⟨⟨⟨hcov,hi0⟩,hop⟩,hall⟩,hc2⟩,hc3⟩:=hc
  have hcA:b5m P F.n f ops (.alt i0 o ws t r) l D=true:=by
   simp only [b5m,Bool.and_eq_true,List.all_eq_true]
   exact ⟨⟨⟨⟨hi0,hop⟩,hall⟩,hc2⟩,hc3⟩
  replace hi0:=List.contains_iff_mem.1 hi0
  obtain ⟨r1,r2,r3⟩:=(T0 hl).1 hi0
  have nonempty:∀ {U lr st},MR P ops l lr D U st→Region.ready .any ops lr≠[]:=fun {U lr st} hR=>by
   by_cases hu:∃ j,U j=true
   · obtain ⟨j,hj⟩:=hu
     exact a4r hcl hback hD hR hj
   · have hnu:∀ j,U j=false:=fun j=>by
      cases h:U j with
      | false=>rfl
      | true=>exact absurd ⟨j,h⟩ hu
     have:i0∈Region.ready .any ops lr:=(T0 hR.size).2 ⟨r1,by rw [hR.eq,r2];rfl,fun e he=>by rw [hR.eq,r3 e he,hnu];rfl⟩
     exact fun h=>by rw [h] at this;cases this
  induction fuel with
  | zero=>
   intro U lr γ st a w hR hI hK hf
   exfalso
   cases hr:Region.ready .any ops lr with
   | nil=>exact nonempty hR hr
   | cons i r=>
    have:=a1o hR.size (i:=i) (by rw [hr];simp)
    omega
  | succ fuel ih=>
   intro U lr γ st a w hR hI hK hf
   refine ⟨fun h0=>absurd h0 (nonempty hR),fun i hi=>?_⟩
   obtain ⟨h1,h2,h3⟩:=(T0 hR.size).1 hi
   have hlt:=a1o hR.size hi
   cases hu:U i with
   | true=>
    obtain ⟨o',ho'⟩:=hR.sub i hu
    exact Go.PW.late hD hR hI hu h3 fun γ' a' w' hI'=>ih _ _ γ' st a' w' (hR.late h1 hu (hD.listed _ ho') h3) hI' hK (by omega)
   | false=>
    have hin:i∈(POM.alt i0 o ws t r).heads:=by
     have hc':=hcov i (b1d hl hR hi hu)
     rw [Bool.or_eq_true,beq_iff_eq,List.contains_iff_mem] at hc'
     rcases hc' with h | h
     · subst h;simp [POM.heads]
     · simp [POM.heads,h]
    exact two l D hl hcl hcA hD fuel U lr γ st a w hR hI hK hf i hin hi hu
theorem c1s {id:Nat} {t:POM} {K:St→Prop} {kx:RV→St→Prop} {γ:Nat→Value} {st:St} {a:Act} {w:World} (hm:P.follows .mixedOrders=true) (hI:Inv F γ st a w) (hc:b90 P F.n ops t=true) (h:a05 P t [] st K kx) (hQ:b4c F K kx Q):(Code.region id ops true).wp P Q a w:=by
 refine wp_region_any hm ?_
 simp only [b90,Bool.and_eq_true,List.all_eq_true,List.mem_range,decide_eq_true_eq] at hc
 have hB:Below w.heap.size w { w with drawn:=w.drawn+1 }:=⟨rfl,rfl,rfl,Nat.le_refl _,fun _ _=>rfl⟩
 have hcl:a3p ops (Array.replicate ops.size false):=fun j hj=>by
  exfalso
  simp [Array.getD_eq_getD_getElem?,Array.getElem?_replicate] at hj
  split at hj<;>simp at hj
 refine (b8s hQ.1 hQ.2 (fun j hj e he=>hc.1 j hj e he) t).1 _ [] (by simp) hcl hc.2 ⟨fun k hk=>by (cases hk),fun k hk=>by (cases hk),fun k hk=>by (cases hk),fun k hk=>by (cases hk),fun k hk=>by (cases hk)⟩ _ (fun _=>false) _ γ st a _ ⟨by simp,fun j=>by simp,fun j hj=>by (cases hj),hcl,fun k hk=>by (cases hk)⟩ ?_ h (Nat.le_trans List.countP_le_length (by simp))
 rw [a8u (fun _=>rfl)]
 exact hI.later hB
end
end Go.PW
