/- Operations as relations: what a still operation yields depends on its operands and on memory alone. -/
import Derived.Test.YtfoapolbgpjfaaaGreatDoorPWy
import Derived.Orders
set_option linter.unusedSectionVars false
set_option linter.unusedSimpArgs false
set_option linter.unusedVariables false
namespace Go.PW
variable [GF]
open Go.RowKit
theorem a9f (op:BinOp) (k:IntKind) (x y:Int) (K:RV→Prop):b7l op k x y K↔∃ r,b7l op k x y (fun q=>q=r)∧K r:=by
 unfold b7l;split<;>simp [and_assoc]
theorem a40 (op:BinOp) (x y:ByteArray) (K:RV→Prop):a6g op x y K↔∃ r,a6g op x y (fun q=>q=r)∧K r:=by
 unfold a6g;split<;>simp [and_assoc]
theorem b9j (op:BinOp) (p q:PV) (K:PV→Prop):b5c op p q K↔∃ r,b5c op p q (fun q=>q=r)∧K r:=by
 unfold b5c;split
 · rw [a9f]
   constructor
   · rintro ⟨h,r,h1,h2⟩;exact ⟨.val r,⟨h,(a9f _ _ _ _ _).2 ⟨r,h1,rfl⟩⟩,h2⟩
   · rintro ⟨p,⟨h,h1⟩,h2⟩;obtain ⟨r,h3,rfl⟩:=(a9f _ _ _ _ _).1 h1;exact ⟨h,r,h3,h2⟩
 · rw [a40]
   constructor
   · rintro ⟨r,h1,h2⟩;exact ⟨.val r,(a40 _ _ _ _).2 ⟨r,h1,rfl⟩,h2⟩
   · rintro ⟨p,h1,h2⟩;obtain ⟨r,h3,rfl⟩:=(a40 _ _ _ _).1 h1;exact ⟨r,h3,h2⟩
 · simp
theorem unS_iff (op:UnOp) (p:PV) (K:PV→Prop):unS op p K↔∃ r,unS op p (fun q=>q=r)∧K r:=by
 unfold unS;split<;>simp
theorem R6 (lo:Option PV) (K:Nat→Prop):X1 lo K↔∃ n,X1 lo (fun m=>m=n)∧K n:=by
 unfold X1;split<;>simp [and_assoc]
theorem R7 (lo:Option PV) (l:Nat) (K:Nat→Prop):X2 lo l K↔∃ n,X2 lo l (fun m=>m=n)∧K n:=by
 unfold X2;split<;>simp [and_assoc]
theorem b7x (z:Nat) (p:PV) (lo hi:Option PV) (K:PV→Prop):a66 z p lo hi K↔∃ r,a66 z p lo hi (fun q=>q=r)∧K r:=by
 unfold a66;split
 · constructor
   · rintro ⟨h0,h⟩
     obtain ⟨n,h1,h2⟩:=(R7 _ _ _).1 h
     obtain ⟨m,h3,h4,h5⟩:=(R6 _ _).1 h2
     exact ⟨_,⟨h0,(R7 _ _ _).2 ⟨n,h1,(R6 _ _).2 ⟨m,h3,h4,rfl⟩⟩⟩,h5⟩
   · rintro ⟨r,⟨h0,h⟩,hk⟩
     obtain ⟨n,h1,h2⟩:=(R7 _ _ _).1 h
     obtain ⟨m,h3,h4,rfl⟩:=(R6 _ _).1 h2
     exact ⟨h0,(R7 _ _ _).2 ⟨n,h1,(R6 _ _).2 ⟨m,h3,h4,hk⟩⟩⟩
 · constructor
   · rintro ⟨h0,h0',h⟩
     obtain ⟨n,h1,h2⟩:=(R7 _ _ _).1 h
     obtain ⟨m,h3,h4,h5⟩:=(R6 _ _).1 h2
     exact ⟨_,⟨h0,h0',(R7 _ _ _).2 ⟨n,h1,(R6 _ _).2 ⟨m,h3,h4,rfl⟩⟩⟩,h5⟩
   · rintro ⟨r,⟨h0,h0',h⟩,hk⟩
     obtain ⟨n,h1,h2⟩:=(R7 _ _ _).1 h
     obtain ⟨m,h3,h4,rfl⟩:=(R6 _ _).1 h2
     exact ⟨h0,h0',(R7 _ _ _).2 ⟨n,h1,(R6 _ _).2 ⟨m,h3,h4,hk⟩⟩⟩
 · simp
theorem Z8 (st:St) (op:POp) (K:PV→Prop):J6 st op K↔∃ r,J6 st op (fun q=>q=r)∧K r:=by
 cases op<;>simp only [J6]
 case bin=>exact b9j ..
 case un=>exact unS_iff ..
 case slc=>exact b7x ..
 case load=>split<;>(try split)<;>simp [and_assoc]
 case iaddr=>split<;>(try split)<;>simp [and_assoc]
 case len=>split<;>(try split)<;>simp [and_assoc]
 case eqs=>split<;>(try simp)<;>(unfold a8a;split<;>simp)
 case tostr=>split<;>(try split)<;>simp [and_assoc]
 case pick=>split<;>simp
 all_goals (try split)<;>simp [and_assoc]
def XOp.opds:XOp→List Opd
 | .mkmap _=>[]
 | .mlook _ _ _ x k=>[x,k]
 | .mupd _ x k v=>[x,k,v]
 | .ment _ _ x k=>[x,k]
 | .mest x b v=>[x,b,v]
 | .plit _ _ x=>[x]
 | .papp _ _ _ x y=>[x,y]
 | .plen x=>[x]
 | .piaddr _ x i=>[x,i]
 | .pload _ _ x=>[x]
 | .pstore _ a x=>[a,x]
def XOp.reads:XOp→Bool
 | .mlook _ _ _ _ _ | .plen _ | .piaddr _ _ _ | .pload _ _ _=>true
 | _=>false
theorem a43 {st:St} {d:Nat} {o:XOp} {K:PV→St→Prop} (hr:o.reads=true) (h:l2 st d o K):∃ r,l2 st d o (fun p s=>p=r∧s=st)∧K r st:=by
 cases o<;>simp [XOp.reads] at hr
 case mlook s ok z x k=>
  simp only [l2] at h ⊢
  split at h
  · split at h
    · rename_i m hm
      obtain ⟨h1,h2,h3⟩:=h
      split at h3<;>exact ⟨_,⟨h1,h2,by simp⟩,h3⟩
    · exact h.elim
  · exact h.elim
 case plen x=>
  simp only [l2] at h ⊢
  split at h
  · split at h
    · exact ⟨_,by simp,h⟩
    · exact h.elim
  · exact h.elim
 case piaddr sz x i=>
  simp only [l2] at h ⊢
  split at h
  · split at h
    · exact ⟨_,⟨h.1,h.2.1,h.2.2.1,by simp⟩,h.2.2.2⟩
    · exact h.elim
  · exact h.elim
 case pload agg n x=>
  simp only [l2] at h ⊢
  split at h
  · split at h
    · exact ⟨_,⟨h.1,h.2.1,h.2.2.1,h.2.2.2.1,by simp⟩,h.2.2.2.2⟩
    · exact h.elim
  · exact h.elim
theorem a0j {st:St} {d:Nat} {o:XOp} {K K':PV→St→Prop} (hK:∀ p s,K p s→K' p s) (h:l2 st d o K):l2 st d o K':=by
 cases o<;>simp only [l2] at h ⊢
 case mkmap=>exact hK _ _ h
 case mlook=>
  split at h
  · split at h
    · refine ⟨h.1,h.2.1,?_⟩
      have h3:=h.2.2
      split at h3<;>exact hK _ _ h3
    · exact h
  · exact h
 case mupd=>
  split at h
  · split at h
    · refine ⟨h.1,h.2.1,h.2.2.1,?_⟩
      have h3:=h.2.2.2
      split at h3<;>exact hK _ _ h3
    · exact h
  · exact h
 case ment=>
  split at h
  · split at h
    · refine ⟨h.1,h.2.1,?_⟩
      have h3:=h.2.2
      split at h3<;>exact hK _ _ h3
    · exact h
  · exact h
 case mest=>
  split at h
  · split at h
    · obtain ⟨h1,key,p,h2,h3,h4⟩:=h
      exact ⟨h1,key,p,h2,h3,hK _ _ h4⟩
    · exact h
  · exact h
 case plit=>exact ⟨h.1,h.2.1,hK _ _ h.2.2⟩
 case papp=>
  split at h
  · split at h
    · refine ⟨h.1,?_⟩
      have h:=h.2
      split at h
      · split at h
        · exact ⟨h.1,h.2.1,h.2.2.1,h.2.2.2.1,h.2.2.2.2.1,h.2.2.2.2.2.1,hK _ _ h.2.2.2.2.2.2⟩
        · exact h
      · exact ⟨h.1,h.2.1,hK _ _ h.2.2⟩
      · exact h
    · exact h
  · exact h
 case plen=>
  split at h
  · split at h
    · exact hK _ _ h
    · exact h
  · exact h
 case piaddr=>
  split at h
  · split at h
    · exact ⟨h.1,h.2.1,h.2.2.1,hK _ _ h.2.2.2⟩
    · exact h
  · exact h
 case pload=>
  split at h
  · split at h
    · exact ⟨h.1,h.2.1,h.2.2.1,h.2.2.2.1,hK _ _ h.2.2.2.2⟩
    · exact h
  · exact h
 case pstore=>
  refine ⟨h.1,?_⟩
  have h:=h.2
  split at h
  · split at h
    · exact ⟨h.1,h.2.1,h.2.2.1,h.2.2.2.1,hK _ _ h.2.2.2.2⟩
    · exact h
  · exact h
def POp.opds:POp→List Opd
 | .mov x=>[x]
 | .pick c a b=>[c,a,b]
 | .alloc _=>[]
 | .box x=>[x]
 | .build _ parts=>parts.map (·.2.2)
 | .lit _ _ xs=>xs
 | .load _ _ x=>[x]
 | .store _ a x=>[a,x]
 | .nilck x=>[x]
 | .bin _ x y=>[x,y]
 | .eqb _ x y=>[x,y]
 | .eqs _ _ x y=>[x,y]
 | .un _ x=>[x]
 | .conv _ x=>[x]
 | .tostr x=>[x]
 | .faddr _ x=>[x]
 | .fld _ _ _ x=>[x]
 | .iaddr _ x i=>[x,i]
 | .idx x i=>[x,i]
 | .slc _ x lo hi=>x :: (lo.toList++hi.toList)
 | .ext _ x=>[x]
 | .call _ xs=>xs
 | .callv x xs=>x :: xs
 | .callr _ x xs=>x :: xs
 | .lens x=>[x]
 | .len x=>[x]
 | .app _ _ _ x y=>[x,y]
 | .mn x y=>[x,y]
 | .mx x y=>[x,y]
 | .mx4 x y z u=>[x,y,z,u]
 | .mkfn _ caps=>caps
 | .ifc _ x=>[x]
 | .pan x=>[x]
 | .mks _ _ _ _ _ x=>[x]
 | .isnil _ _ x=>[x]
 | .xop o=>o.opds
def Agree (st st':St) (xs:List Opd):Prop:=st'.mem=st.mem∧∀ x∈xs,ev st' x=ev st x
theorem Agree.sub {st st':St} {xs ys:List Opd} (h:Agree st st' xs) (hs:∀ y∈ys,y∈xs):Agree st st' ys:=⟨h.1,fun y hy=>h.2 y (hs y hy)⟩
theorem a6m {st st':St} {op:POp} (h:Agree st st' op.opds) (K:PV→Prop):J6 st' op K↔J6 st op K:=by
 obtain ⟨hm,he⟩:=h
 cases op<;>simp only [POp.opds] at he<;>simp only [J6]
 case slc z x lo hi=>
  have h1:lo.map (ev st')=lo.map (ev st):=by cases lo<;>simp;exact he _ (by simp)
  have h2:hi.map (ev st')=hi.map (ev st):=by cases hi<;>simp;exact he _ (by simp)
  rw [he x (by simp),h1,h2]
 case mkfn f caps=>rw [List.map_congr_left (fun x hx=>he x hx)]
 all_goals simp_all
theorem a3j {st st':St} {K:List PV→Prop}:∀ {parts:List (Nat×Nat×Opd)} {cs:List PV},Agree st st' (parts.map (·.2.2))→(a0o st' cs parts K↔a0o st cs parts K)
 | [],cs,_=>Iff.rfl
 | (off,n,x) :: ps,cs,h=>by
  have hx:=h.2 x (by simp)
  simp only [a0o]
  rw [hx,h.1,a3j (h.sub (fun y hy=>by simp at hy ⊢;exact .inr hy))]
theorem a0c {st:St} {K:List PV→Prop}:∀ {parts:List (Nat×Nat×Opd)} {cs:List PV},a0o st cs parts K↔∃ r,a0o st cs parts (fun q=>q=r)∧K r
 | [],cs=>by simp [a0o]
 | (off,n,x) :: ps,cs=>by
  simp only [a0o]
  rw [a0c]
  simp [and_assoc]
theorem a3k {st st':St} {sz:Nat}:∀ {xs:List Opd},Agree st st' xs→elems st' sz xs=elems st sz xs
 | [],_=>rfl
 | x :: xs,h=>by
  simp only [elems]
  rw [h.2 x (by simp),a3k (h.sub (fun y hy=>by simp [hy]))]
def a0y (P:Program) (st:St) (f:Nat) (ps:List PV) (K:PV→Prop):Prop:=
 match a0z st.mem ps with
 | none=>False
 | some as=>boxIds ps=[]∧∃ p,f9 P f as (.ret p []) []∧(∀ b,p.shift b=p)∧p.ownLt 0=true∧(ps.all PV.noOwn=true∨p.flat=true)∧K p
def V0 (P:Program) (st:St) (op:POp) (K:PV→Prop):Prop:=
 match op with
 | .build z parts=>a0o st z parts fun cs=>K (l4 cs)
 | .lit E sz xs=>match elems st sz xs with
  | some rs=>K (.val (.list sz rs))
  | none=>False
 | .call f xs=>a0y P st f (xs.map (ev st)) K
 | .callv x xs=>match ev st x with
  | .fn f caps=>fnB P f=true∧a0y P st f (xs.map (ev st)++caps) K
  | _=>False
 | .xop o=>o.reads=true∧l2 st 0 o fun p _=>K p
 | op=>J6 st op K
theorem a2s {P:Program} {st:St} {f:Nat} {ps:List PV} {K K':PV→Prop} (h:∀ p,K p→K' p) (hh:a0y P st f ps K):a0y P st f ps K':=by
 unfold a0y at *
 split at hh
 · exact hh
 · obtain ⟨h0,p,h1,h2,h3,h4,h5⟩:=hh
   exact ⟨h0,p,h1,h2,h3,h4,h p h5⟩
theorem b3e {P:Program} {st:St} {f:Nat} {ps:List PV} {K:PV→Prop} (hh:a0y P st f ps K):∃ r,a0y P st f ps (fun q=>q=r)∧K r:=by
 unfold a0y at *
 split at hh
 · exact hh.elim
 · obtain ⟨h0,p,h1,h2,h3,h4,h5⟩:=hh
   exact ⟨p,⟨h0,p,h1,h2,h3,h4,rfl⟩,h5⟩
theorem a7z {P:Program} {st:St} {op:POp} {K:PV→Prop} (h:V0 P st op K):∃ r,V0 P st op (fun q=>q=r)∧K r:=by
 cases op<;>simp only [V0] at h ⊢
 case build=>
  obtain ⟨r,h1,h2⟩:=a0c.1 h
  exact ⟨_,a0c.2 ⟨r,h1,rfl⟩,h2⟩
 case lit=>split at h<;>simp_all
 case call=>exact b3e h
 case callv=>
  split at h
  · obtain ⟨r,h1,h2⟩:=b3e h.2
    exact ⟨r,⟨h.1,h1⟩,h2⟩
  · exact h.elim
 case xop=>
  obtain ⟨r,h1,h2⟩:=a43 h.1 h.2
  exact ⟨r,⟨h.1,a0j (fun p s hh=>hh.1) h1⟩,h2⟩
 all_goals exact (Z8 _ _ _).1 h
theorem a1n {P:Program} {st st':St} {op:POp} (h:Agree st st' op.opds) (K:PV→Prop):V0 P st' op K↔V0 P st op K:=by
 cases op<;>simp only [V0]
 case build=>exact a3j h
 case lit E sz xs=>rw [a3k (xs:=xs) (sz:=sz) h]
 case call f xs=>
  have:xs.map (ev st')=xs.map (ev st):=List.map_congr_left fun x hx=>h.2 x hx
  rw [this];unfold a0y;rw [h.1]
 case callv x xs=>
  have:xs.map (ev st')=xs.map (ev st):=List.map_congr_left fun x hx=>h.2 x (by simp [POp.opds,hx])
  rw [this,h.2 x (by simp [POp.opds])];unfold a0y;rw [h.1]
 case xop o=>
  obtain ⟨hm,he⟩:=h
  cases hr:o.reads with
  | false=>simp
  | true=>
   cases o<;>simp [XOp.reads] at hr
   case mlook s ok z x k=>simp [l2,he x (by simp [POp.opds,XOp.opds]),he k (by simp [POp.opds,XOp.opds]),hm]
   case plen x=>simp [l2,he x (by simp [POp.opds,XOp.opds]),hm]
   case piaddr sz x i=>simp [l2,he x (by simp [POp.opds,XOp.opds]),he i (by simp [POp.opds,XOp.opds]),hm]
   case pload agg n x=>simp [l2,he x (by simp [POp.opds,XOp.opds]),hm]
 all_goals exact a6m h K
end Go.PW
