/- Fo: merged out of KXan, KXao, KJi, KXap, KJl, KXaq, KXar, KXas, KXat, KXau. -/
import Derived.Test.YtfoapolbgpjfaaaGreatDoorFn
import Derived.Test.YtfoapolbgpjfaaaGreatDoorEa
import Derived.Test.YtfoapolbgpjfaaaGreatDoorBa
import Derived.Test.YtfoapolbgpjfaaaGreatDoorCa
import Derived.Test.YtfoapolbgpjfaaaGreatDoorAc
import Derived.Test.YtfoapolbgpjfaaaGreatDoorShelf
import Derived.Shelf.Strings.OnBuilder
import Derived.Test.YtfoapolbgpjfaaaGreatDoorFl
set_option linter.unusedSectionVars false
set_option linter.unusedSimpArgs false
set_option linter.unusedVariables false
set_option maxRecDepth 100000
section
namespace Go.Proofs
open Go.PW Go.KP
attribute [local simp] RV.cells RV.one PV.cells PV.solid PV.one N3 b8 O9 P0 RV.ofCells elems PV.killL
variable [GH]
def a5b:LJson:=.mk 0 0 [] [] []
def a8z (ns:List Tx) (xs:List LJson) (n:Tx):LJson×Bool:=if a2i ns (fun x=>decide (x=n)) < 0 then (a5b,false) else (xs.getD (a2i ns fun x=>decide (x=n)).toNat a5b,true)
def b3v (ns:List Tx) (xs:List LJson) (n:Tx):PV:=.tup [.val (N6 (a8z ns xs n).1),.val (.bool (a8z ns xs n).2)]
theorem c4w (k m:Int) (t:Tx) (ns:List Tx) (xs:List LJson) (n:Tx) (hl:ns.length < 1099511627776) (hx:∀ i:Nat,a2i ns (fun x=>decide (x=n))=i→i < xs.length):z6 Tryz.prog 59 [.val (N6 (.mk k m t ns xs)),.val (tx n)] (.ret (b3v ns xs n) []) []:=by
 refine K4 mixed ok59 rfl (fun _=>rfl) ?_
 have hI:=a9y ns n hl
 rw [N4]
 unfold ir59 b3v a8z
 obtain ⟨z,hz⟩:∃ z,a2i ns (fun x=>decide (x=n))=z:=⟨_,rfl⟩
 rw [hz] at hI hx ⊢
 rw [d9]
 simp [w8,J8,P1,b9,q8,num,tx,N7,b8]
 refine f6 (by simp [Q4,avOf,tx]) rfl (.inl rfl) hI ?_
 by_cases h:z < 0
 · simp [num,tx,h,R1,U6,a12,St.fin,St.freeze,PV.frzL,PV.frz,PV.plL,PV.pl,R8,okId,MObj.pl,b8,O9,N6,a0t,N7,a5b]
 · obtain ⟨i,rfl⟩:∃ i:Nat,z=i:=⟨z.toNat,by omega⟩
   have hi:=hx i rfl
   obtain ⟨y,hy⟩:∃ y,xs.getD i a5b=y:=⟨_,rfl⟩
   have hy2:xs[i]=y:=by rw [← hy];simp [hi]
   obtain ⟨a1,a2,a3,a4,a5⟩:=y
   simp [num,tx,h,hi,hy2,N4,R1,U6,a12,St.fin,St.freeze,PV.frzL,PV.frz,PV.plL,PV.pl,R8,okId,MObj.pl,b8,O9,N7]
theorem c4h {ns:List Tx} {xs:List LJson} {n:Tx} {i:Nat} (hi:i < ns.length) (h1:ns[i]=n) (h:∀ j (hj:j < i),ns[j]'(by omega)≠n):a8z ns xs n=(xs.getD i a5b,true):=by
 unfold a8z
 rw [a71 hi (by simp [h1]) (fun k hk=>by simpa using h k hk),if_neg (by omega)]
 rfl
theorem c16 {ns:List Tx} {xs:List LJson} {n:Tx} (h:∀ j (hj:j < ns.length),ns[j]≠n):a8z ns xs n=(a5b,false):=by
 unfold a8z
 rw [a6d (fun k hk=>by simpa using h k hk),if_pos (by omega)]
theorem b7w (k m:Int) (t:Tx) (ns:List Tx) (xs:List LJson) (n:Tx) (hl:ns.length≤1048576) (hx:ns=[]∨ns.length=xs.length):z6 Tryz.prog 160 [.val (N6 (.mk k m t ns xs)),.val (tx n)] (.ret (b3v ns xs n) []) []:=by
 refine K4 mixed ok160 rfl (fun _=>rfl) ?_
 rw [N4]
 obtain ⟨R,hR⟩:∃ R,a8z ns xs n=R:=⟨_,rfl⟩
 obtain ⟨Z,hZ⟩:∃ Z,a1l [.c 4 true 5,.t 5] (b3v ns xs n)=Z:=⟨_,rfl⟩
 rw [hZ]
 unfold ir160
 rw [d9]
 simp [w8,J8,P1,b9,q8,num,tx,N7,b8]
 refine S1 (X:=Nat) (fun i=>⟨S7 [(1,.val (tx n)),(2,.ptr 2 0),(4,.ptr 4 0),(6,.val (num (i:Int)))],S0 [(2,.box [.val (num k),.val (num m),.val (tx t),.val (.list 1 (ns.map tx)),.val (.list 5 (xs.map N6))]),(4,.box [.val (num 0),.val (num 0),.val (tx []),.emp 1,.emp 5])]⟩)
  (fun i=>i≤ns.length∧∀ j (h:j < ns.length),j < i→ns[j]≠n) (fun i=>ns.length - i) 0 (Le.mk _ _ ?_ ?_) ⟨Nat.zero_le _,fun j _ h=>absurd h (Nat.not_lt_zero _)⟩ ?_
 · simp [num,tx,PV.kill]
 · simp [num,tx,MObj.kill,PV.kill,PV.killL,N7]
 · rintro i ⟨hi,hno⟩
   have wi:IntKind.i64.wrap ((i:Int)+1)=((i+1:Nat):Int):=by rw [wrap_i64 (by omega) (by omega)];omega
   by_cases h1:i < ns.length
   · have h2:i < xs.length:=by rcases hx with h | h;subst h;simp at h1;omega
     obtain ⟨y,hy⟩:∃ y,xs[i]=y:=⟨_,rfl⟩
     obtain ⟨a1,a2,a3,a4,a5⟩:=y
     obtain ⟨u,hu⟩:∃ u,ns[i]=u:=⟨_,rfl⟩
     by_cases h3:u=n
     · have hj:=c4h (xs:=xs) h1 (hu.trans h3) (fun j hj=>hno j (by omega) hj)
       have hg:xs.getD i a5b=.mk a1 a2 a3 a4 a5:=by simp [h2,hy]
       rw [hg] at hj
       subst h3
       simp [num,tx,h1,h2,hy,hu,N4,R3]
       rw [← hZ]
       unfold b3v
       rw [hj]
       simp [num,tx,N4,R1,U6,a12,St.fin,St.freeze,PV.frzL,PV.frz,PV.plL,PV.pl,R8,okId,MObj.pl,b8,O9,N7]
     · simp [num,tx,h1,h2,hy,hu,h3,N4,R3]
       refine LoopNext.mk (i+1) ⟨h1,fun j hj hji=>?_⟩ (by omega) (Le.mk _ _ ?_ ?_)
       · by_cases e:j=i
         · subst e;rw [hu];exact h3
         · exact hno j hj (by omega)
       · simp [num,wi,tx]
       · simp [num,tx]
   · have hj:=c16 (ns:=ns) (xs:=xs) (n:=n) (fun j hj=>hno j hj (by omega))
     simp [num,tx,h1]
     rw [← hZ]
     unfold b3v
     rw [hj]
     simp [num,tx,N6,a0t,a5b,R1,U6,a12,St.fin,St.freeze,PV.frzL,PV.frz,PV.plL,PV.pl,R8,okId,MObj.pl,b8,O9,N7]
end Go.Proofs
end
section
namespace Go.Proofs
open Go.PW Go.KP
variable [GF]
end Go.Proofs
end
section
namespace Go.Proofs
open Go.PW Go.KP
attribute [local simp] RV.cells RV.one PV.cells PV.solid PV.one N3 b8 O9 P0 RV.ofCells elems PV.killL
section
variable [GF]
end
end Go.Proofs
end
section
namespace Go.Proofs
open Go.PW Go.KP
attribute [local simp] RV.cells RV.one PV.cells PV.solid PV.one N3 b8 O9 P0 RV.ofCells elems PV.killL
section
variable [GF]
def jxbox (k n:Int) (t:Tx) (ns:List Tx) (is:List LJson):MObj:=.box [.val (num k),.val (num n),.val (tx t),.val (.list 1 (ns.map tx)),.val (.list 5 (is.map N6))]
end
end Go.Proofs
end
section
namespace Go.Proofs
open Go.PW Go.KP Go.RowKit
variable [GH]
end Go.Proofs
end
section
namespace Go.Proofs
open Go.PW Go.KP
attribute [local simp] RV.cells RV.one PV.cells PV.solid PV.one N3 b8 O9 P0 RV.ofCells elems PV.killL
section
variable [GH]
structure XS2 (st:St) (k n:Int) (t:Tx) (ns:List Tx) (is:List LJson) (i:Nat):Prop where
 e1:st.env 1=.ptr 1 0
 e3:st.env 3=.own 30
 e32:st.env 32=.val (.list 5 (is.map N6))
 e33:st.env 33=.val (num is.length)
 e34:st.env 34=.val (num i)
 m1:st.mem 1=jxbox k n t ns is
end
end Go.Proofs
end
section
namespace Go.Proofs
open Go.PW Go.KP
attribute [local simp] RV.cells RV.one PV.cells PV.solid PV.one N3 b8 O9 P0 RV.ofCells elems PV.killL
variable [GF]
end Go.Proofs
end
section
namespace Go.Proofs
open Go.PW Go.KP
attribute [local simp] RV.cells RV.one PV.cells PV.solid PV.one N3 b8 O9 P0 RV.ofCells elems PV.killL
variable [GF]
end Go.Proofs
end
section
namespace Go.Proofs
open Go.PW Go.KP
attribute [local simp] RV.cells RV.one PV.cells PV.solid PV.one N3 b8 O9 P0 RV.ofCells elems PV.killL
variable [GH]
end Go.Proofs
end
section
namespace Go.Proofs
open Go.PW Go.KP
attribute [local simp] RV.cells RV.one PV.cells PV.solid PV.one N3 b8 O9 P0 RV.ofCells elems PV.killL
variable [GH]
def R2 (x:LJson) (n:Tx):LJson×Bool:=a8z x.names x.items n
theorem a5l {d:Nat} {k n:Int} {t:Tx} {ns:List Tx} {is:List LJson} (h:S6 d (.mk k n t ns is)):ns=[]∨k=6∧ns.length=is.length∧is.length≤12:=by
 unfold S6 at h
 rcases h with ⟨_,_,_,h1,h2⟩ | ⟨_,_,_,h1,h2⟩ | ⟨_,_,_,h1,h2⟩ | ⟨_,_,_,h1,h2⟩ | ⟨_,_,hl,⟨_,h1⟩ | ⟨h0,h1,_⟩,_⟩
 · exact .inl h1
 · exact .inl h1
 · exact .inl h1
 · exact .inl h1
 · exact .inl h1
 · exact .inr ⟨h0,h1,hl⟩
theorem b10 {d:Nat} {k n:Int} {t:Tx} {ns:List Tx} {is:List LJson} (h:S6 (d+1) (.mk k n t ns is)):∀ x∈is,S6 d x:=by
 unfold S6 at h
 rcases h with ⟨_,_,_,h1,h2⟩ | ⟨_,_,_,h1,h2⟩ | ⟨_,_,_,h1,h2⟩ | ⟨_,_,_,h1,h2⟩ | ⟨_,_,hl,_,hs⟩
 · subst h2;simp
 · subst h2;simp
 · subst h2;simp
 · subst h2;simp
 · exact hs
theorem c17 {d:Nat} {k n:Int} {t:Tx} {ns:List Tx} {is:List LJson} (w:Tx) (h:S6 (d+1) (.mk k n t ns is)):a8z ns is w=(a5b,false)∨∃ x,a8z ns is w=(x,true)∧S6 d x:=by
 rcases b3r ns (fun x=>decide (x=w)) with ⟨k1,k2⟩ | ⟨i,hi,k1,k2⟩
 · left;unfold a8z;rw [k1];simp
 · right
   have hx:i < is.length:=by
    rcases a5l h with rfl | ⟨_,h2,_⟩
    · simp at hi
    · omega
   refine ⟨is[i],?_,b10 h _ (List.getElem_mem hx)⟩
   unfold a8z;rw [k1,if_neg (by omega)];simp [hx]
end Go.Proofs
end
