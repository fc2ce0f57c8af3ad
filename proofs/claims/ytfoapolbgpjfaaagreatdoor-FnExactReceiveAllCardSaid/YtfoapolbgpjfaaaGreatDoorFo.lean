/- Fo: merged out of KXan, KXao, KJi, KXap, KJl, KXaq, KXar, KXas, KXat, KXau, KXav. -/
import Derived.Test.YtfoapolbgpjfaaaGreatDoorFn
import Derived.Test.YtfoapolbgpjfaaaGreatDoorEa
import Derived.Test.YtfoapolbgpjfaaaGreatDoorBa
import Derived.Test.YtfoapolbgpjfaaaGreatDoorCa
import Derived.Test.YtfoapolbgpjfaaaGreatDoorAc
import Derived.Test.YtfoapolbgpjfaaaGreatDoorShelf
import Derived.Shelf.Strings.OnBuilder
import Derived.Test.YtfoapolbgpjfaaaGreatDoorFl
import Derived.Test.YtfoapolbgpjfaaaGreatDoorPWag
set_option linter.unusedSectionVars false
set_option linter.unusedSimpArgs false
set_option linter.unusedVariables false
set_option maxRecDepth 100000
section
namespace Go.Proofs
open Go.PW Go.KP
attribute [local simp] RV.cells RV.one PV.cells PV.solid PV.one G5 a8 O1 O3 RV.ofCells elems PV.killL
variable [GH]
def a45:LJson:=.mk 0 0 [] [] []
def Z2 (ns:List Tx) (xs:List LJson) (n:Tx):LJson×Bool:=if a2r ns (fun x=>decide (x=n)) < 0 then (a45,false) else (xs.getD (a2r ns fun x=>decide (x=n)).toNat a45,true)
def a9o (ns:List Tx) (xs:List LJson) (n:Tx):PV:=.tup [.val (K6 (Z2 ns xs n).1),.val (.bool (Z2 ns xs n).2)]
theorem b1o (k m:Int) (t:Tx) (ns:List Tx) (xs:List LJson) (n:Tx) (hl:ns.length < 1099511627776) (hx:∀ i:Nat,a2r ns (fun x=>decide (x=n))=i→i < xs.length):i7 Tryz.prog 59 [.val (K6 (.mk k m t ns xs)),.val (tx n)] (.ret (a9o ns xs n) []) []:=by
 refine F9 mixed ok59 rfl (fun _=>rfl) ?_
 have hI:=a9s ns n hl
 rw [s7]
 unfold ir59 a9o Z2
 obtain ⟨z,hz⟩:∃ z,a2r ns (fun x=>decide (x=n))=z:=⟨_,rfl⟩
 rw [hz] at hI hx ⊢
 rw [b8]
 simp [d6,s8,L3,b7,c8,num,tx,s9,a8]
 refine d7 (by simp [Q0,avOf,tx]) rfl (.inl rfl) hI ?_
 by_cases h:z < 0
 · simp [num,tx,h,P7,S0,Y6,St.fin,St.freeze,PV.frzL,PV.frz,PV.plL,PV.pl,O7,okId,MObj.pl,a8,O1,K6,a0g,s9,a45]
 · obtain ⟨i,rfl⟩:∃ i:Nat,z=i:=⟨z.toNat,by omega⟩
   have hi:=hx i rfl
   obtain ⟨y,hy⟩:∃ y,xs.getD i a45=y:=⟨_,rfl⟩
   have hy2:xs[i]=y:=by rw [← hy];simp [hi]
   obtain ⟨a1,a2,a3,a4,a5⟩:=y
   simp [num,tx,h,hi,hy2,s7,P7,S0,Y6,St.fin,St.freeze,PV.frzL,PV.frz,PV.plL,PV.pl,O7,okId,MObj.pl,a8,O1,s9]
theorem c4s {ns:List Tx} {xs:List LJson} {n:Tx} {i:Nat} (hi:i < ns.length) (h1:ns[i]=n) (h:∀ j (hj:j < i),ns[j]'(by omega)≠n):Z2 ns xs n=(xs.getD i a45,true):=by
 unfold Z2
 rw [a44 hi (by simp [h1]) (fun k hk=>by simpa using h k hk),if_neg (by omega)]
 rfl
theorem c2a {ns:List Tx} {xs:List LJson} {n:Tx} (h:∀ j (hj:j < ns.length),ns[j]≠n):Z2 ns xs n=(a45,false):=by
 unfold Z2
 rw [a3v (fun k hk=>by simpa using h k hk),if_pos (by omega)]
theorem a5m (k m:Int) (t:Tx) (ns:List Tx) (xs:List LJson) (n:Tx) (hl:ns.length≤1048576) (hx:ns=[]∨ns.length=xs.length):i7 Tryz.prog 160 [.val (K6 (.mk k m t ns xs)),.val (tx n)] (.ret (a9o ns xs n) []) []:=by
 refine F9 mixed ok160 rfl (fun _=>rfl) ?_
 rw [s7]
 obtain ⟨R,hR⟩:∃ R,Z2 ns xs n=R:=⟨_,rfl⟩
 obtain ⟨Z,hZ⟩:∃ Z,a4o [.c 4 true 5,.t 5] (a9o ns xs n)=Z:=⟨_,rfl⟩
 rw [hZ]
 unfold ir160
 rw [b8]
 simp [d6,s8,L3,b7,c8,num,tx,s9,a8]
 refine P5 (X:=Nat) (fun i=>⟨P9 [(1,.val (tx n)),(2,.ptr 2 0),(4,.ptr 4 0),(6,.val (num (i:Int)))],Q1 [(2,.box [.val (num k),.val (num m),.val (tx t),.val (.list 1 (ns.map tx)),.val (.list 5 (xs.map K6))]),(4,.box [.val (num 0),.val (num 0),.val (tx []),.emp 1,.emp 5])]⟩)
  (fun i=>i≤ns.length∧∀ j (h:j < ns.length),j < i→ns[j]≠n) (fun i=>ns.length - i) 0 (Le.mk _ _ ?_ ?_) ⟨Nat.zero_le _,fun j _ h=>absurd h (Nat.not_lt_zero _)⟩ ?_
 · simp [num,tx,PV.kill]
 · simp [num,tx,MObj.kill,PV.kill,PV.killL,s9]
 · rintro i ⟨hi,hno⟩
   have wi:IntKind.i64.wrap ((i:Int)+1)=((i+1:Nat):Int):=by rw [wrap_i64 (by omega) (by omega)];omega
   by_cases h1:i < ns.length
   · have h2:i < xs.length:=by rcases hx with h | h;subst h;simp at h1;omega
     obtain ⟨y,hy⟩:∃ y,xs[i]=y:=⟨_,rfl⟩
     obtain ⟨a1,a2,a3,a4,a5⟩:=y
     obtain ⟨u,hu⟩:∃ u,ns[i]=u:=⟨_,rfl⟩
     by_cases h3:u=n
     · have hj:=c4s (xs:=xs) h1 (hu.trans h3) (fun j hj=>hno j (by omega) hj)
       have hg:xs.getD i a45=.mk a1 a2 a3 a4 a5:=by simp [h2,hy]
       rw [hg] at hj
       subst h3
       simp [num,tx,h1,h2,hy,hu,s7,R2]
       rw [← hZ]
       unfold a9o
       rw [hj]
       simp [num,tx,s7,P7,S0,Y6,St.fin,St.freeze,PV.frzL,PV.frz,PV.plL,PV.pl,O7,okId,MObj.pl,a8,O1,s9]
     · simp [num,tx,h1,h2,hy,hu,h3,s7,R2]
       refine LoopNext.mk (i+1) ⟨h1,fun j hj hji=>?_⟩ (by omega) (Le.mk _ _ ?_ ?_)
       · by_cases e:j=i
         · subst e;rw [hu];exact h3
         · exact hno j hj (by omega)
       · simp [num,wi,tx]
       · simp [num,tx]
   · have hj:=c2a (ns:=ns) (xs:=xs) (n:=n) (fun j hj=>hno j hj (by omega))
     simp [num,tx,h1]
     rw [← hZ]
     unfold a9o
     rw [hj]
     simp [num,tx,K6,a0g,a45,P7,S0,Y6,St.fin,St.freeze,PV.frzL,PV.frz,PV.plL,PV.pl,O7,okId,MObj.pl,a8,O1,s9]
end Go.Proofs
end
section
namespace Go.Proofs
open Go.PW Go.KP
variable [GF]
theorem b5q (n:Int) (h0:-1000000000000≤n) (h1:n≤9223372036854775807):i7 Tryz.prog 223 [.val (num n)] (.ret (.val (tx (a2s n))) []) []:=by
 by_cases hn:n < 0
 · obtain ⟨m,rfl⟩:∃ m:Nat,n=-(m:Int):=⟨(-n).toNat,by omega⟩
   have hc:=a4r m (by omega)
   have hw:IntKind.i64.wrap (m:Int)=(m:Int):=wrap_i64 (by omega) (by omega)
   have hm:¬ -(m:Int)=-9223372036854775808:=by omega
   have hl:=b6z m
   have he:a2s (-(m:Int))=45 :: a0z m:=by
    unfold a2s
    rw [if_pos hn]
    simp
   rw [he]
   have hn':0 < m:=by omega
   refine F9 mixed ok223 rfl (fun _=>rfl) ?_
   unfold ir223
   rw [b8]
   have hm2:¬ (m:Int)=9223372036854775808:=by omega
   simp [d6,s8,L3,b7,c8,num,hm,hm2,hn,hn',hw]
   refine d7 rfl rfl (.inl rfl) hc ?_
   simp [d6,s8,L3,b7,c8,num,tx,s9,b9,S8]
   omega
 · obtain ⟨m,rfl⟩:∃ m:Nat,n=m:=⟨n.toNat,by omega⟩
   have:=a4r m (by omega)
   rw [show a2s (m:Int)=a0z m by unfold a2s;rw [if_neg (by omega)];rfl]
   exact this
end Go.Proofs
end
section
namespace Go.Proofs
open Go.PW Go.KP
attribute [local simp] RV.cells RV.one PV.cells PV.solid PV.one G5 a8 O1 O3 RV.ofCells elems PV.killL
section
variable [GF]
theorem b15 (t:Tx) (ht:t.length≤1048576):i7 Tryz.prog 224 [.val (tx t)] (.ret (.val (tx (a09 t))) []) []:=by
 refine F9 mixed ok224 rfl (fun _=>rfl) ?_
 unfold ir224
 rw [b8]
 simp [d6,s8,L3,b7,c8,tx,num]
 refine P5 (X:=Nat) (fun i=>⟨P9 [(0,.val (tx t)),(3,.val (tx (34 :: a1h (t.take i)))),(4,.val (num i))],Q1 []⟩) (fun i=>i≤t.length) (fun i=>t.length - i) 0 (Le.mk _ _ ?_ ?_) ?_ ?_
 · simp [upd,tx,num,a1h,s9]
 · simp
 · simp
 · intro i hi
   simp [num,tx,b9]
   refine P8 (fun h1=>?_) (fun h1=>?_)
   · have hq:=a3s (t.take i)
     have hti:(t.take i).length=i:=by simp;omega
     have hsucc:=b0u t i h1
     obtain ⟨c,hc⟩:∃ c,t[i]=c:=⟨_,rfl⟩
     rw [hc] at hsucc
     have e1:((c.toNat:Int)=34)↔c.toNat=34:=by omega
     have e2:((c.toNat:Int)=92)↔c.toNat=92:=by omega
     have e3:((c.toNat:Int) < 32)↔c.toNat < 32:=by omega
     have e4:((126:Int) < c.toNat)↔126 < c.toNat:=by omega
     have wi:IntKind.i64.wrap ((i:Int)+1)=((i+1:Nat):Int):=by rw [wrap_i64 (by omega) (by omega)];omega
     have fin:∀ st':St,st'.env 0=.val (tx t)→st'.env 3=.val (tx (34 :: (a1h (t.take i)++qb c)))→st'.env 4=.val (num ((i+1:Nat):Int))→∃ x',x'≤t.length∧t.length - x' < t.length - i∧Le st' ⟨P9 [(0,.val (tx t)),(3,.val (tx (34 :: a1h (t.take x')))),(4,.val (num x'))],Q1 []⟩:=fun st' q0 q3 q4=>by
      refine ⟨i+1,h1,by omega,Le.mk _ _ ?_ ?_⟩
      · simp [q0,q3,q4,hsucc]
      · simp
     have h256:c.toNat < 256:=c.toNat_lt
     have hr:(t.drop i).take 1=[c]:=by rw [← hc,List.drop_eq_getElem_cons h1];rfl
     have hr2:(t.take (i+1)).drop i=[c]:=by rw [List.drop_take,show i+1 - i=1 by omega,hr]
     have wi2:IntKind.i64.wrap ((i:Int)+1)=(i:Int)+1:=wrap_i64 (by omega) (by omega)
     have fin':∀ st':St,st'.env 0=.val (tx t)→st'.env 3=.val (tx (34 :: (a1h (t.take i)++qb c)))→st'.env 4=.val (num ((i:Int)+1))→∃ x',x'≤t.length∧t.length - x' < t.length - i∧Le st' ⟨P9 [(0,.val (tx t)),(3,.val (tx (34 :: a1h (t.take x')))),(4,.val (num x'))],Q1 []⟩:=fun st' q0 q3 q4=>fin st' q0 q3 (by rw [q4];rfl)
     by_cases h34:c.toNat=34
     · simp [num,tx,b9,O6,U0,S8,s9,hti,h1,hc,e1,e2,e3,e4,h34,wi2,hr2]
       refine ⟨by omega,by omega,fin' _ ?_ ?_ ?_⟩
       · simp [num,tx]
       · simp [num,tx,qb,h34]
       · simp [num,tx]
     by_cases h92:c.toNat=92
     · simp [num,tx,b9,O6,U0,S8,s9,hti,h1,hc,e1,e2,e3,e4,h92,wi2,hr2]
       refine ⟨by omega,by omega,fin' _ ?_ ?_ ?_⟩
       · simp [num,tx]
       · simp [num,tx,qb,h92]
       · simp [num,tx]
     by_cases h32:c.toNat < 32
     · have hqb:qb c=[92,117,48,48,hexs.getD (c.toNat / 16) 0,hexs.getD (c.toNat % 16) 0]:=by unfold qb;rw [if_neg (by omega),if_neg (by omega)]
       have w1:IntKind.u8.wrap ((c.toNat:Int) / 16)=((c.toNat / 16:Nat):Int):=by rw [a0u (by omega) (by omega)];omega
       have w2:((c.toNat:Int)).tmod 16=((c.toNat % 16:Nat):Int):=by rw [Int.tmod_eq_emod_of_nonneg (by omega)];omega
       generalize ha:hexs.getD (c.toNat / 16) 0=a at hqb
       generalize hb:hexs.getD (c.toNat % 16) 0=b at hqb
       have f1:([48,49,50,51,52,53,54,55,56,57,97,98,99,100,101,102]:List UInt8)[c.toNat / 16]?.getD 0=a:=by rw [← ha,List.getD_eq_getElem?_getD];rfl
       have f2:([48,49,50,51,52,53,54,55,56,57,97,98,99,100,101,102]:List UInt8)[c.toNat % 16]?.getD 0=b:=by rw [← hb,List.getD_eq_getElem?_getD];rfl
       generalize hn1:c.toNat / 16=n1 at w1 f1 ha
       generalize hn2:c.toNat % 16=n2 at w2 f2 hb
       have g1:n1 < 16:=by omega
       have g2:n2 < 16:=by omega
       have f3:([48,49,50,51,52,53,54,55,56,57,97,98,99,100,101,102]:List UInt8)[n1]'g1=a:=by rw [← f1,List.getElem?_eq_getElem g1];rfl
       have f4:([48,49,50,51,52,53,54,55,56,57,97,98,99,100,101,102]:List UInt8)[n2]'g2=b:=by rw [← f2,List.getElem?_eq_getElem g2];rfl
       simp [num,tx,b9,O6,U0,S8,s9,hti,h1,hc,e1,e2,e3,e4,h34,h92,h32,wi2,hr2,w1,w2,f3,f4,g1,g2,RV.isU8,V8,RV.byte]
       refine ⟨?_,?_,?_,fin' _ ?_ ?_ ?_⟩
       · omega
       · omega
       · omega
       · simp [num,tx]
       · simp [num,tx,hqb]
       · simp [num,tx]
     by_cases h126:126 < c.toNat
     · have hqb:qb c=[92,117,48,48,hexs.getD (c.toNat / 16) 0,hexs.getD (c.toNat % 16) 0]:=by unfold qb;rw [if_neg (by omega),if_neg (by omega)]
       have w1:IntKind.u8.wrap ((c.toNat:Int) / 16)=((c.toNat / 16:Nat):Int):=by rw [a0u (by omega) (by omega)];omega
       have w2:((c.toNat:Int)).tmod 16=((c.toNat % 16:Nat):Int):=by rw [Int.tmod_eq_emod_of_nonneg (by omega)];omega
       generalize ha:hexs.getD (c.toNat / 16) 0=a at hqb
       generalize hb:hexs.getD (c.toNat % 16) 0=b at hqb
       have f1:([48,49,50,51,52,53,54,55,56,57,97,98,99,100,101,102]:List UInt8)[c.toNat / 16]?.getD 0=a:=by rw [← ha,List.getD_eq_getElem?_getD];rfl
       have f2:([48,49,50,51,52,53,54,55,56,57,97,98,99,100,101,102]:List UInt8)[c.toNat % 16]?.getD 0=b:=by rw [← hb,List.getD_eq_getElem?_getD];rfl
       generalize hn1:c.toNat / 16=n1 at w1 f1 ha
       generalize hn2:c.toNat % 16=n2 at w2 f2 hb
       have g1:n1 < 16:=by omega
       have g2:n2 < 16:=by omega
       have f3:([48,49,50,51,52,53,54,55,56,57,97,98,99,100,101,102]:List UInt8)[n1]'g1=a:=by rw [← f1,List.getElem?_eq_getElem g1];rfl
       have f4:([48,49,50,51,52,53,54,55,56,57,97,98,99,100,101,102]:List UInt8)[n2]'g2=b:=by rw [← f2,List.getElem?_eq_getElem g2];rfl
       simp [num,tx,b9,O6,U0,S8,s9,hti,h1,hc,e1,e2,e3,e4,h34,h92,h32,h126,wi2,hr2,w1,w2,f3,f4,g1,g2,RV.isU8,V8,RV.byte]
       refine ⟨?_,?_,?_,fin' _ ?_ ?_ ?_⟩
       · omega
       · omega
       · omega
       · simp [num,tx]
       · simp [num,tx,hqb]
       · simp [num,tx]
     · have h32':32≤c.toNat:=by omega
       have h126':c.toNat≤126:=by omega
       simp [num,tx,b9,O6,U0,S8,s9,hti,h1,hc,e1,e2,e3,e4,h34,h92,h32,h126,wi2,hr2]
       refine ⟨by omega,by omega,fin' _ ?_ ?_ ?_⟩
       · simp [num,tx]
       · simp [num,tx,qb,h34,h92,h32',h126']
       · simp [num,tx]
   · have e:i=t.length:=by omega
     subst e
     have hq:=a3s t
     simp [num,tx,b9,s9,S8,a09]
     omega
theorem c09 (t:Tx) (ht:t.length≤1048576):i7 Tryz.prog 121 [.val (tx t)] (.ret (.val (tx (a09 t))) []) []:=by
 refine F9 mixed ok121 rfl (fun _=>rfl) ?_
 unfold ir121
 rw [b8]
 simp [d6,s8,L3,b7,c8,tx,num,elems,b9]
 refine P5 (X:=Nat) (fun i=>⟨P9 [(0,.val (tx t)),(3,.own 6),(8,.val (num t.length)),(9,.val (num i))],Q1 [(6,.row 5 1 ((34 :: a1h (t.take i)).map rvb))]⟩) (fun i=>i≤t.length) (fun i=>t.length - i) 0 (Le.mk _ _ ?_ ?_) ?_ ?_
 · simp [upd,tx,num,PV.kill]
 · simp [upd,a1h,rvb]
 · simp
 · intro i hi
   simp [num,tx]
   refine P8 (fun h1=>?_) (fun h1=>?_)
   · have hq:=a3s (t.take i)
     have hti:(t.take i).length=i:=by simp;omega
     have hsucc:=b0u t i h1
     obtain ⟨c,hc⟩:∃ c,t[i]=c:=⟨_,rfl⟩
     rw [hc] at hsucc
     have e1:((c.toNat:Int)=34)↔c.toNat=34:=by omega
     have e2:((c.toNat:Int)=92)↔c.toNat=92:=by omega
     have e3:((c.toNat:Int) < 32)↔c.toNat < 32:=by omega
     have e4:((126:Int) < c.toNat)↔126 < c.toNat:=by omega
     have h256:c.toNat < 256:=c.toNat_lt
     have wi2:IntKind.i64.wrap ((i:Int)+1)=(i:Int)+1:=wrap_i64 (by omega) (by omega)
     have wc:IntKind.i64.wrap (c.toNat:Int)=(c.toNat:Int):=wrap_i64 (by omega) (by omega)
     have fin':∀ st':St,st'.env 0=.val (tx t)→st'.env 3=.own 6→st'.env 8=.val (num t.length)→st'.env 9=.val (num ((i:Int)+1))→st'.mem 6=.row 5 1 ((34 :: a1h (t.take i)).map rvb++(qb c).map rvb)→∃ x',x'≤t.length∧t.length - x' < t.length - i∧Le st' ⟨P9 [(0,.val (tx t)),(3,.own 6),(8,.val (num t.length)),(9,.val (num x'))],Q1 [(6,.row 5 1 ((34 :: a1h (t.take x')).map rvb))]⟩:=fun st' q0 q3 q8 q9 m6=>by
      refine ⟨i+1,h1,by omega,Le.mk _ _ ?_ ?_⟩
      · simp [q0,q3,q8,q9,num]
      · simp [m6,hsucc,rvb]
     by_cases h34:c.toNat=34
     · simp [num,tx,rvb,elems,b9,O6,h1,hc,e1,e2,e3,e4,h34,wi2]
       refine ⟨by omega,by omega,fin' _ ?_ ?_ ?_ ?_ ?_⟩
       · simp [num,tx]
       · simp [num,tx]
       · simp [num,tx]
       · simp [num,tx]
       · simp [num,tx,rvb,qb,h34]
     by_cases h92:c.toNat=92
     · simp [num,tx,rvb,elems,b9,O6,h1,hc,e1,e2,e3,e4,h92,wi2]
       refine ⟨by omega,by omega,fin' _ ?_ ?_ ?_ ?_ ?_⟩
       · simp [num,tx]
       · simp [num,tx]
       · simp [num,tx]
       · simp [num,tx]
       · simp [num,tx,rvb,qb,h92]
     simp [num,tx,rvb,elems,b9,O6,h1,hc,e1,e2,e3,e4,h34,h92,wi2,wc]
     refine d7 rfl rfl (.inl rfl) (a0r c.toNat 32 126) ?_
     by_cases h32:32≤c.toNat∧c.toNat≤126
     · have h32':(32:Int)≤c.toNat∧(c.toNat:Int)≤126:=by omega
       rw [decide_eq_true h32']
       simp [num,tx,rvb,elems,b9,O6,h1,hc,e1,e2,e3,e4,h34,h92,wi2]
       refine ⟨by omega,by omega,fin' _ ?_ ?_ ?_ ?_ ?_⟩
       · simp [num,tx]
       · simp [num,tx]
       · simp [num,tx]
       · simp [num,tx]
       · simp [num,tx,rvb,qb,h34,h92,h32]
     · have h32':¬ ((32:Int)≤c.toNat∧(c.toNat:Int)≤126):=by omega
       rw [decide_eq_false h32']
       have hqb:qb c=[92,117,48,48,hexs.getD (c.toNat / 16) 0,hexs.getD (c.toNat % 16) 0]:=by unfold qb;rw [if_neg (by omega),if_neg h32]
       have w1:IntKind.u8.wrap ((c.toNat:Int) / 16)=((c.toNat / 16:Nat):Int):=by rw [a0u (by omega) (by omega)];omega
       have w2:((c.toNat:Int)).tmod 16=((c.toNat % 16:Nat):Int):=by rw [Int.tmod_eq_emod_of_nonneg (by omega)];omega
       generalize ha:hexs.getD (c.toNat / 16) 0=a at hqb
       generalize hb:hexs.getD (c.toNat % 16) 0=b at hqb
       have f1:([48,49,50,51,52,53,54,55,56,57,97,98,99,100,101,102]:List UInt8)[c.toNat / 16]?.getD 0=a:=by rw [← ha,List.getD_eq_getElem?_getD];rfl
       have f2:([48,49,50,51,52,53,54,55,56,57,97,98,99,100,101,102]:List UInt8)[c.toNat % 16]?.getD 0=b:=by rw [← hb,List.getD_eq_getElem?_getD];rfl
       generalize hn1:c.toNat / 16=n1 at w1 f1 ha
       generalize hn2:c.toNat % 16=n2 at w2 f2 hb
       have g1:n1 < 16:=by omega
       have g2:n2 < 16:=by omega
       have f3:([48,49,50,51,52,53,54,55,56,57,97,98,99,100,101,102]:List UInt8)[n1]'g1=a:=by rw [← f1,List.getElem?_eq_getElem g1];rfl
       have f4:([48,49,50,51,52,53,54,55,56,57,97,98,99,100,101,102]:List UInt8)[n2]'g2=b:=by rw [← f2,List.getElem?_eq_getElem g2];rfl
       simp [num,tx,rvb,elems,b9,O6,h1,hc,e1,e2,e3,e4,s9,h34,h92,wi2,w1,w2,f3,f4,g1,g2]
       refine ⟨by omega,by omega,by omega,by omega,fin' _ ?_ ?_ ?_ ?_ ?_⟩
       · simp [num,tx]
       · simp [num,tx]
       · simp [num,tx]
       · simp [num,tx]
       · simp [num,tx,rvb,hqb]
   · have e:i=t.length:=by omega
     subst e
     have hq:=a3s t
     simp [num,tx,elems]
     refine ⟨by omega,by omega,?_⟩
     have e:rvb 34 :: ((a1h t).map rvb++[RV.int .u8 34])=(a09 t).map rvb:=by simp [a09,rvb]
     exact ⟨⟨rfl,fun x _=>rfl,rfl⟩,by rw [e,a5o]⟩
end
end Go.Proofs
end
section
namespace Go.Proofs
open Go.PW Go.KP
attribute [local simp] RV.cells RV.one PV.cells PV.solid PV.one G5 a8 O1 O3 RV.ofCells elems PV.killL
section
variable [GF]
def W0 (k n:Int) (t:Tx) (ns:List Tx) (is:List LJson):MObj:=.box [.val (num k),.val (num n),.val (tx t),.val (.list 1 (ns.map tx)),.val (.list 5 (is.map K6))]
def a2t (k:Int) (ns:List Tx) (x:LJson) (i:Nat):Tx:=if k=6 then a09 (ns.getD i [])++58 :: jtx x else jtx x
theorem c0a {K:Kx (PExit→St→Prop)} (k n:Int) (t:Tx) (ns:List Tx) (is:List LJson) (i:Nat) (q:Tx) (h1:i < is.length) (hq:q.length≤70368752566272) (hl:(jtx is[i]).length≤70368752566272)
 (hC:i7 Tryz.prog 177 [.val (K6 is[i])] (.ret (.val (tx (jtx is[i]))) []) [])
 (hn:∀ st':St,st'.env 1=.ptr 1 0→st'.env 3=.val (tx (q++jtx is[i]))→st'.env 4=.val (num i)→st'.mem 1=W0 k n t ns is→K.k .normal st')
 (st:St) (e1:st.env 1=.ptr 1 0) (e3:st.env 3=.val (tx q)) (e4:st.env 4=.val (num i)) (m1:st.mem 1=W0 k n t ns is):EC Tryz.prog ir177_s49 st (K:=K):=by
 obtain ⟨⟨k',n',t',ns',is'⟩,hx⟩:∃ x,is[i]=x:=⟨_,rfl⟩
 rw [hx] at hl hC hn
 rw [s7] at hC
 obtain ⟨r,hr⟩:∃ r,jtx (.mk k' n' t' ns' is')=r:=⟨_,rfl⟩
 rw [hr] at hl hC hn
 unfold ir177_s49
 simp [e1,e3,e4,m1,W0,num,tx,h1,hx,s7]
 refine d7 rfl rfl (.inl rfl) hC ?_
 simp [num,tx,b9,S8]
 refine ⟨by omega,hn _ ?_ ?_ ?_ ?_⟩
 all_goals simp [e1,e3,e4,m1,W0,num,tx]
theorem c0b {K:Kx (PExit→St→Prop)} (k n:Int) (t:Tx) (ns:List Tx) (is:List LJson) (i:Nat) (q:Tx) (h1:i < is.length) (hq:q.length≤70368744177664) (hl:(jtx is[i]).length≤70368744177664)
 (hk:k=6→ns.length=is.length∧∀ s∈ns,s.length≤1048576)
 (hC:i7 Tryz.prog 177 [.val (K6 is[i])] (.ret (.val (tx (jtx is[i]))) []) [])
 (hn:∀ st':St,st'.env 1=.ptr 1 0→st'.env 3=.val (tx (q++a2t k ns is[i] i))→st'.env 4=.val (num i)→st'.mem 1=W0 k n t ns is→K.k .normal st')
 (st:St) (e1:st.env 1=.ptr 1 0) (e3:st.env 3=.val (tx q)) (e4:st.env 4=.val (num i)) (m1:st.mem 1=W0 k n t ns is):EC Tryz.prog ir177_s37 st (K:=K):=by
 unfold ir177_s37
 by_cases h6:k=6
 · obtain ⟨hnl,hns⟩:=hk h6
   have h2:i < ns.length:=by omega
   have hqn:=a4d ns[i]
   have hsl:=hns _ (List.getElem_mem h2)
   have hQ:=b15 ns[i] hsl
   simp [e1,e3,e4,m1,W0,num,tx,h6,h2]
   refine d7 rfl rfl (.inl rfl) hQ ?_
   simp [num,tx,b9,S8,s9]
   refine ⟨by omega,by omega,?_⟩
   refine c0a 6 n t ns is i (q++(a09 ns[i]++[58])) h1 (by simp;omega) (by omega) hC (fun st' q1 q3 q4 m1=>hn st' q1 ?_ q4 (by rw [h6];exact m1)) _ ?_ ?_ ?_ ?_
   · rw [q3];simp [a2t,h6,List.getD_eq_getElem?_getD,h2]
   all_goals simp [e1,e3,e4,m1,W0,num,tx,h6]
 · simp [e1,e3,e4,m1,W0,num,tx,h6]
   refine c0a k n t ns is i q h1 (by omega) (by omega) hC (fun st' q1 q3 q4 m1=>hn st' q1 (by rw [q3];simp [a2t,h6]) q4 m1) _ ?_ ?_ ?_ ?_
   all_goals simp [e1,e3,e4,m1,W0,num,tx]
theorem a7v (k:Int) (ns:List Tx) (is:List LJson) (hk:k=6→ns.length=is.length) (i:Nat) (h:i < is.length):(T5 k ns (is.map jtx)).length=is.length∧∀ h',(T5 k ns (is.map jtx))[i]'h' = a2t k ns is[i] i:=by
 refine ⟨by rw [a02,List.length_map],fun h'=>?_⟩
 by_cases h6:k=6
 · subst h6
   have hn:=hk rfl
   rw [a60 ns _ (by rw [List.length_map];exact hn) i (by omega) (by rw [List.length_map];exact h)]
   simp [a2t,List.getD_eq_getElem?_getD,show i < ns.length by omega]
 · have e:=a1m h6 ns (is.map jtx)
   simp only [e,a2t,if_neg h6,List.getElem_map]
theorem c3h {d:Nat} (k n:Int) (t:Tx) (ns:List Tx) (is:List LJson) (hd:d≤3) (hkk:k=5∨(k=6∧ns.length=is.length∧∀ s∈ns,s.length≤120)) (hl:is.length≤12) (hs:∀ x∈is,R7 d x)
 (hCs:∀ x∈is,i7 Tryz.prog 177 [.val (K6 x)] (.ret (.val (tx (jtx x))) []) []):i7 Tryz.prog 177 [.val (K6 (.mk k n t ns is))] (.ret (.val (tx (jtx (.mk k n t ns is)))) []) []:=by
 refine F9 mixed ok177 rfl (fun _=>rfl) ?_
 unfold ir177
 rw [b8]
 rw [s7]
 have hk':k=5∨k=6:=hkk.elim .inl fun h=>.inr h.1
 have n1:¬ k=1:=by omega
 have n2:¬ k=2:=by omega
 have n3:¬ k=3:=by omega
 have n4:¬ k=4:=by omega
 have h6:k=6→ns.length=is.length∧∀ s∈ns,s.length≤1048576:=fun h=>hkk.elim (fun h5=>by omega) fun h=>⟨h.2.1,fun s hs=>by have:=h.2.2 s hs;omega⟩
 have hacc:=fun i=>(a3w hd hkk hl hs i).1
 obtain ⟨r,hr⟩:∃ r,jtx (.mk k n t ns is)=r:=⟨_,rfl⟩
 rw [hr]
 simp [d6,s8,L3,b7,c8,tx,num,n1,n2,n3,n4]
 refine P5 (X:=Nat) (fun i=>⟨P9 [(1,.ptr 1 0),(3,.val (tx (a0o [44] ((T5 k ns (is.map jtx)).take i)))),(4,.val (num i))],Q1 [(1,W0 k n t ns is)]⟩) (fun i=>i≤is.length) (fun i=>is.length - i) 0 (Le.mk _ _ ?_ ?_) ?_ ?_
 · simp [upd,num,tx,PV.kill,a0o,s9]
 · simp [tx,num,W0]
 · simp
 · intro i hi
   have hai:=hacc i
   simp [num,tx,W0]
   refine P8 (fun h1=>?_) (fun h1=>?_)
   · obtain ⟨g1,g2⟩:=a7v k ns is (fun h=>(h6 h).1) i h1
     have hst:=b82 [44] (T5 k ns (is.map jtx)) i (by rw [g1];exact h1)
     rw [g2] at hst
     have wi:IntKind.i64.wrap ((i:Int)+1)=((i+1:Nat):Int):=by rw [wrap_i64 (by omega) (by omega)];omega
     have hC:=hCs is[i] (List.getElem_mem h1)
     have hil:=(a3w hd hkk hl hs i).2 _ (List.getElem_mem h1)
     generalize hA:a0o [44] ((T5 k ns (is.map jtx)).take i)=A at *
     simp [num,tx]
     refine P8 (fun h0=>?_) (fun h0=>?_)
     · rw [if_neg (by omega)] at hst
       simp [num,tx,b9,s9,S8]
       refine ⟨by omega,?_⟩
       refine c0b k n t ns is i (A++[44]) h1 (by simp;omega) (by omega) h6 hC (fun st' q1 q3 q4 m1=>?_) _ ?_ ?_ ?_ ?_
       · simp [q1,q3,q4,num]
         refine LoopNext.mk (i+1) h1 (by omega) (Le.mk _ _ ?_ ?_)
         · simp [num,q1,q3,q4,wi,hst]
         · simp [m1]
       all_goals simp [num,tx,W0]
     · rw [if_pos (by omega)] at hst
       simp [num,tx]
       refine c0b k n t ns is i A h1 (by omega) (by omega) h6 hC (fun st' q1 q3 q4 m1=>?_) _ ?_ ?_ ?_ ?_
       · simp [q1,q3,q4,num]
         refine LoopNext.mk (i+1) h1 (by omega) (Le.mk _ _ ?_ ?_)
         · simp [num,q1,q3,q4,wi,hst]
         · simp [m1]
       all_goals simp [num,tx,W0]
   · have e:i=is.length:=by omega
     subst e
     have ht:(T5 k ns (is.map jtx)).take is.length=T5 k ns (is.map jtx):=List.take_of_length_le (by rw [a02,List.length_map];omega)
     rw [ht] at hai
     rw [Y8,if_neg n1,if_neg n2,if_neg n3,if_neg n4] at hr
     rcases hk' with rfl | rfl
     · rw [if_pos rfl] at hr
       rw [a1m (by decide)] at hai ht
       simp [num,tx,W0,s9,S8,b9]
       try rw [a1m (by decide)]
       rw [List.take_of_length_le (by rw [List.length_map];omega)]
       refine ⟨by omega,by omega,by rw [← hr]⟩
     · rw [if_neg (by decide)] at hr
       simp [num,tx,W0,s9,S8,b9]
       rw [ht]
       refine ⟨by omega,by omega,by rw [← hr]⟩
theorem a7d:∀ (d:Nat) (j:LJson),d≤4→R7 d j→i7 Tryz.prog 177 [.val (K6 j)] (.ret (.val (tx (jtx j))) []) []
 | d,.mk k n t ns is,hd,h=>by
  unfold R7 at h
  rcases h with ⟨rfl,rfl,rfl,rfl,rfl⟩ | ⟨rfl,hb,rfl,rfl,rfl⟩ | ⟨rfl,h1,rfl,rfl,rfl⟩ | ⟨rfl,rfl,h1,rfl,rfl⟩ | ⟨rfl,rfl,hl,hkk0,hs0⟩
  · refine F9 mixed ok177 rfl (fun _=>rfl) ?_
    unfold ir177
    rw [b8,s7]
    simp [d6,s8,L3,b7,c8,tx,num,Y8,jnull,s9]
  · rcases hb with rfl | rfl
    · refine F9 mixed ok177 rfl (fun _=>rfl) ?_
      unfold ir177
      rw [b8,s7]
      simp [d6,s8,L3,b7,c8,tx,num,Y8,jfalse,s9]
    · refine F9 mixed ok177 rfl (fun _=>rfl) ?_
      unfold ir177
      rw [b8,s7]
      simp [d6,s8,L3,b7,c8,tx,num,Y8,jtrue,s9]
  · refine F9 mixed ok177 rfl (fun _=>rfl) ?_
    unfold ir177
    rw [b8,s7]
    simp [d6,s8,L3,b7,c8,tx,num]
    refine d7 rfl rfl (.inl rfl) (b5q n (by omega) (by omega)) ?_
    simp [Y8,tx]
  · refine F9 mixed ok177 rfl (fun _=>rfl) ?_
    unfold ir177
    rw [b8,s7]
    simp [d6,s8,L3,b7,c8,tx,num]
    refine d7 rfl rfl (.inl rfl) (b15 t (by omega)) ?_
    simp [Y8,tx]
  · cases d with
    | zero=>exact hs0.elim
    | succ d=>
    have hs:∀ x∈is,R7 d x:=hs0
    have hkk:k=5∨(k=6∧ns.length=is.length∧∀ s∈ns,s.length≤120):=by
     rcases hkk0 with ⟨h,_⟩ | ⟨h,h2,_,h4⟩
     · exact .inl h
     · exact .inr ⟨h,h2,h4⟩
    exact c3h k 0 [] ns is (by omega) hkk hl hs (fun x hx=>a7d d x (by omega) (hs x hx))
end
end Go.Proofs
end
section
namespace Go.Proofs
open Go.PW Go.KP Go.RowKit
variable [GH]
theorem b3k (sep:Tx) (l:List Tx):Go.Lib.join l sep=a0o sep l:=by
 cases l with
 | nil=>rfl
 | cons x r=>rw [Go.Lib.join_cons];rfl
theorem a9c (t:Tx):(bs t).data.toList=t:=by simp [bs]
theorem a6m (l:List Tx):(l.map bs).map (fun x=>x.data.toList)=l:=by
 rw [List.map_map]
 conv=>rhs;rw [← List.map_id l]
 exact List.map_congr_left fun t _=>a9c t
theorem c43 (l:List Tx) (sep:Tx) (hl:(a0o sep l).length≤140737488355328) (hn:l.length≤140737488355328):i7 Tryz.prog 122 [.val (.list 1 (l.map tx)),.val (tx sep)] (.ret (.val (tx (a0o sep l))) []) []:=by
 intro L w vs ms hL hgl hgb hargs hnd
 cases hargs with
 | cons _ _ v vs' ms1 ms2 h1 h2=>
  cases h1 with
  | val _ _ h1=>
   obtain ⟨rfl,rfl⟩:=b0a (rs:=[tx sep]) rfl h2
   have key:Calls Tryz.prog 122 #[v,.string (bs sep)] w fun e w'=>e=.returned (.string (bs (a0o sep l)))∧Below w.heap.size w w':=by
    generalize hr:RV.list 1 (l.map tx)=r at h1
    cases h1 with
    | list0 sz A c=>
     injection hr with e1 e2
     have:l=[]:=by simpa using e2
     subst this
     exact (Tryz.strings_Join_none A c (bs sep) w).mono fun e w' ⟨he,hw⟩=>⟨he,hw ▸ Below.refl _ _⟩
    | list sz xs b o c f h0 hsz hcap hb hc hx h=>
     injection hr with e1 e2
     subst e1;subst e2
     have hlen:(l.map tx).length=l.length:=by simp
     have hlen':(l.map bs).length=l.length:=by simp
     have hpos:0 < l.length:=by rw [← hlen];exact List.length_pos_iff.2 h0
     have hcell:∀ (j:Nat) x,(l.map bs)[j]?=some x→w.cell? ⟨b,o+j,none⟩=some (.string x):=fun j x hj=>by
      obtain ⟨hj1,hj2⟩:=List.getElem?_eq_some_iff.1 hj
      rw [hlen'] at hj1
      rw [hc j (by rw [hlen];omega)]
      have hh:=h j 0 (by rw [hlen];exact hj1) (by omega)
      have eg:((l.map tx).getD j RV.nilptr)=tx l[j]:=by
       rw [List.getD_eq_getElem?_getD,List.getElem?_eq_getElem (by rw [hlen];exact hj1)];simp
      rw [eg] at hh
      have e3:(tx l[j]).cells.getD 0 RV.nilptr=.str (bs l[j]):=rfl
      rw [e3,Nat.mul_one,Nat.add_zero] at hh
      generalize f j=u at hh
      cases hh
      have:bs l[j]=x:=by rw [← hj2];simp
      rw [this]
     have hbk:b < w.heap.size:=World.block_lt_of_cell? w _ (hc 0 (by rw [hlen];omega))
     have:=Tryz.strings_Join b o c (l.map bs) (bs sep) w hcell hbk (by rw [hlen'];exact hn) (by rw [hlen',← hlen];exact hcap)
      (by rw [a6m,a9c,b3k];exact hl)
     rw [a6m,a9c,b3k,hlen'] at this
     rw [hlen]
     exact this
    | _=>cases hr
   refine key.mono fun e w' ⟨he,hb⟩=>?_
   exact ⟨Outside.of_below hb,_,fun _=>undef,he,.val _ _ (.str _),a43,rfl,fun i b cells h1 h2=>by simp at h1⟩
end Go.Proofs
end
section
namespace Go.Proofs
open Go.PW Go.KP
attribute [local simp] RV.cells RV.one PV.cells PV.solid PV.one G5 a8 O1 O3 RV.ofCells elems PV.killL
section
variable [GH]
structure XS2 (st:St) (k n:Int) (t:Tx) (ns:List Tx) (is:List LJson) (i:Nat):Prop where
 e1:st.env 1=.ptr 1 0
 e3:st.env 3=.own 30
 e32:st.env 32=.val (.list 5 (is.map K6))
 e33:st.env 33=.val (num is.length)
 e34:st.env 34=.val (num i)
 m1:st.mem 1=W0 k n t ns is
theorem b98 {K:Kx (PExit→St→Prop)} (k n:Int) (t:Tx) (ns:List Tx) (is:List LJson) (i:Nat) (p:Tx) (L:List Tx) (hL:L.length≤16)
 (hn:∀ st':St,XS2 st' k n t ns is i→st'.mem 30=.row 9 1 (L.map tx++[tx p])→K.k .normal st')
 (st:St) (h:XS2 st k n t ns is i) (e6:st.env 6=.val (tx p)) (m30:st.mem 30=.row 9 1 (L.map tx)):EC Tryz.prog ir60_s53 st (K:=K):=by
 obtain ⟨e1,e3,e32,e33,e34,m1⟩:=h
 unfold ir60_s53
 simp [e1,e3,e6,e32,e33,e34,m1,m30,num,tx,elems,a8,RV.one]
 refine ⟨by omega,by omega,hn _ ⟨?_,?_,?_,?_,?_,?_⟩ ?_⟩
 all_goals simp [e1,e3,e6,e32,e33,e34,m1,m30,num,tx,W0,MObj.kill]
theorem b99 {K:Kx (PExit→St→Prop)} (k n:Int) (t:Tx) (ns:List Tx) (is:List LJson) (i:Nat) (L:List Tx) (hL:L.length≤16) (h1:i < is.length)
 (hl:(jtx is[i]).length≤70368744177664)
 (hk:k=6→ns.length=is.length∧∀ s∈ns,s.length≤1048576)
 (hn:∀ st':St,XS2 st' k n t ns is i→st'.mem 30=.row 9 1 (L.map tx++[tx (a2t k ns is[i] i)])→K.k .normal st')
 (st:St) (h:XS2 st k n t ns is i) (e4:st.env 4=.val (num i)) (e6:st.env 6=.val (tx (jtx is[i]))) (m30:st.mem 30=.row 9 1 (L.map tx)):EC Tryz.prog ir60_s41 st (K:=K):=by
 unfold ir60_s41
 have hc:=h
 obtain ⟨e1,e3,e32,e33,e34,m1⟩:=h
 by_cases h6:k=6
 · obtain ⟨hnl,hns⟩:=hk h6
   have h2:i < ns.length:=by omega
   have hqn:=a4d ns[i]
   have hsl:=hns _ (List.getElem_mem h2)
   have hQ:=c09 ns[i] hsl
   simp [e1,e3,e4,e6,m1,W0,num,tx,h6,h2]
   refine d7 rfl rfl (.inl rfl) hQ ?_
   simp [num,tx,e6,b9,S8,s9]
   refine ⟨by omega,by omega,?_⟩
   refine b98 k n t ns is i (a09 ns[i]++58 :: jtx is[i]) L hL (fun st' q m=>hn st' q ?_) _ ⟨?_,?_,?_,?_,?_,?_⟩ ?_ ?_
   · rw [m];simp [a2t,h6,List.getD_eq_getElem?_getD,h2]
   all_goals simp [e1,e3,e4,e6,e32,e33,e34,m1,m30,W0,num,tx,h6]
 · simp [e1,e3,e4,e6,m1,W0,num,tx,h6]
   refine b98 k n t ns is i (jtx is[i]) L hL (fun st' q m=>hn st' q (by rw [m];simp [a2t,h6])) _ ⟨?_,?_,?_,?_,?_,?_⟩ ?_ ?_
   all_goals simp [e1,e3,e4,e6,e32,e33,e34,m1,m30,W0,num,tx]
theorem c3g {d:Nat} (k n:Int) (t:Tx) (ns:List Tx) (is:List LJson) (hd:d≤3) (hkk:k=5∨(k=6∧ns.length=is.length∧∀ s∈ns,s.length≤120)) (hl:is.length≤12) (hs:∀ x∈is,R7 d x)
 (hCs:∀ x∈is,i7 Tryz.prog 60 [.val (K6 x)] (.ret (.val (tx (jtx x))) []) []):i7 Tryz.prog 60 [.val (K6 (.mk k n t ns is))] (.ret (.val (tx (jtx (.mk k n t ns is)))) []) []:=by
 refine F9 mixed ok60 rfl (fun _=>rfl) ?_
 unfold ir60
 rw [b8]
 rw [s7]
 have hk':k=5∨k=6:=hkk.elim .inl fun h=>.inr h.1
 have n1:¬ k=1:=by omega
 have n2:¬ k=2:=by omega
 have n3:¬ k=3:=by omega
 have n4:¬ k=4:=by omega
 have h6:k=6→ns.length=is.length∧∀ s∈ns,s.length≤1048576:=fun h=>hkk.elim (fun h5=>by omega) fun h=>⟨h.2.1,fun s hs=>by have:=h.2.2 s hs;omega⟩
 have hacc:=(a3w hd hkk hl hs is.length).1
 have hpl:(T5 k ns (is.map jtx)).length=is.length:=by rw [a02,List.length_map]
 rw [List.take_of_length_le (by omega)] at hacc
 obtain ⟨r,hr⟩:∃ r,jtx (.mk k n t ns is)=r:=⟨_,rfl⟩
 rw [hr]
 obtain ⟨ps,hps⟩:∃ ps,T5 k ns (is.map jtx)=ps:=⟨_,rfl⟩
 have hget:=a7v k ns is fun h=>(h6 h).1
 rw [hps] at hacc hpl hget
 rcases hk' with rfl | rfl
 · simp [d6,s8,L3,b7,c8,tx,num,n1,n2,n3,n4]
   refine P5 (X:=Nat) (fun i=>⟨P9 [(1,.ptr 1 0),(3,.own 30),(32,.val (.list 5 (is.map K6))),(33,.val (num is.length)),(34,.val (num i))],Q1 [(1,W0 5 n t ns is),(30,.row 9 1 ((ps.take i).map tx))]⟩) (fun i=>i≤is.length) (fun i=>is.length - i) 0 (Le.mk _ _ ?_ ?_) ?_ ?_
   · simp [upd,num,tx,PV.kill]
   · simp [tx,num,W0,MObj.kill]
   · simp
   · intro i hi
     simp [num,tx]
     refine P8 (fun h1=>?_) (fun h1=>?_)
     · obtain ⟨g1,g2⟩:=hget i h1
       have hst:(ps.take (i+1)).map tx=(ps.take i).map tx++[tx (a2t 5 ns is[i] i)]:=by
        rw [List.take_add_one,List.getElem?_eq_getElem (by omega),g2,List.map_append];rfl
       have wi:IntKind.i64.wrap ((i:Int)+1)=((i+1:Nat):Int):=by rw [wrap_i64 (by omega) (by omega)];omega
       have hC:=hCs is[i] (List.getElem_mem h1)
       have hil:=(a3w hd hkk hl hs i).2 _ (List.getElem_mem h1)
       obtain ⟨⟨k',n',t',ns',is'⟩,hx⟩:∃ x,is[i]=x:=⟨_,rfl⟩
       have hC':=hC
       rw [hx,s7] at hC'
       simp [num,tx,h1,hx,s7]
       refine d7 rfl rfl (.inl rfl) hC' ?_
       simp [num,tx]
       refine b99 5 n t ns is i (ps.take i) (by simp;omega) h1 (by omega) h6 (fun st' q m=>?_) _ ⟨?_,?_,?_,?_,?_,?_⟩ ?_ ?_ ?_
       · obtain ⟨q1,q3,q32,q33,q34,m1⟩:=q
         simp [q1,q3,q32,q33,q34,num]
         refine LoopNext.mk (i+1) h1 (by omega) (Le.mk _ _ ?_ ?_)
         · simp [num,q1,q3,q32,q33,q34,wi]
         · rw [hst];simp [m1,m]
       all_goals simp [num,tx,W0,hx,MObj.kill]
     · have e:i=is.length:=by omega
       subst e
       have ht:ps.take is.length=ps:=List.take_of_length_le (by omega)
       rw [Y8,if_neg n1,if_neg n2,if_neg n3,if_neg n4,if_pos rfl] at hr
       simp [num,tx,W0]
       refine d7 (by simp [Q0,avOf];exact ⟨List.take_of_length_le (by simp;omega),rfl⟩) rfl (.inr rfl) (c43 ps [44] (by omega) (by omega)) ?_
       have h5:is.map jtx=ps:=by rw [← hps,a1m (by decide)]
       rw [h5] at hr
       simp [num,tx,W0,s9,S8,b9]
       refine ⟨by omega,by omega,by rw [← hr]⟩
 · simp [d6,s8,L3,b7,c8,tx,num,n1,n2,n3,n4]
   refine P5 (X:=Nat) (fun i=>⟨P9 [(1,.ptr 1 0),(3,.own 30),(32,.val (.list 5 (is.map K6))),(33,.val (num is.length)),(34,.val (num i))],Q1 [(1,W0 6 n t ns is),(30,.row 9 1 ((ps.take i).map tx))]⟩) (fun i=>i≤is.length) (fun i=>is.length - i) 0 (Le.mk _ _ ?_ ?_) ?_ ?_
   · simp [upd,num,tx,PV.kill]
   · simp [tx,num,W0,MObj.kill]
   · simp
   · intro i hi
     simp [num,tx]
     refine P8 (fun h1=>?_) (fun h1=>?_)
     · obtain ⟨g1,g2⟩:=hget i h1
       have hst:(ps.take (i+1)).map tx=(ps.take i).map tx++[tx (a2t 6 ns is[i] i)]:=by
        rw [List.take_add_one,List.getElem?_eq_getElem (by omega),g2,List.map_append];rfl
       have wi:IntKind.i64.wrap ((i:Int)+1)=((i+1:Nat):Int):=by rw [wrap_i64 (by omega) (by omega)];omega
       have hC:=hCs is[i] (List.getElem_mem h1)
       have hil:=(a3w hd hkk hl hs i).2 _ (List.getElem_mem h1)
       obtain ⟨⟨k',n',t',ns',is'⟩,hx⟩:∃ x,is[i]=x:=⟨_,rfl⟩
       have hC':=hC
       rw [hx,s7] at hC'
       simp [num,tx,h1,hx,s7]
       refine d7 rfl rfl (.inl rfl) hC' ?_
       simp [num,tx]
       refine b99 6 n t ns is i (ps.take i) (by simp;omega) h1 (by omega) h6 (fun st' q m=>?_) _ ⟨?_,?_,?_,?_,?_,?_⟩ ?_ ?_ ?_
       · obtain ⟨q1,q3,q32,q33,q34,m1⟩:=q
         simp [q1,q3,q32,q33,q34,num]
         refine LoopNext.mk (i+1) h1 (by omega) (Le.mk _ _ ?_ ?_)
         · simp [num,q1,q3,q32,q33,q34,wi]
         · rw [hst];simp [m1,m]
       all_goals simp [num,tx,W0,hx,MObj.kill]
     · have e:i=is.length:=by omega
       subst e
       have ht:ps.take is.length=ps:=List.take_of_length_le (by omega)
       rw [Y8,if_neg n1,if_neg n2,if_neg n3,if_neg n4,if_neg (by decide)] at hr
       simp [num,tx,W0]
       refine d7 (by simp [Q0,avOf];exact ⟨List.take_of_length_le (by simp;omega),rfl⟩) rfl (.inr rfl) (c43 ps [44] (by omega) (by omega)) ?_
       rw [hps] at hr
       simp [num,tx,W0,s9,S8,b9]
       refine ⟨by omega,by omega,by rw [← hr]⟩
theorem b9i:∀ (d:Nat) (j:LJson),d≤4→R7 d j→i7 Tryz.prog 60 [.val (K6 j)] (.ret (.val (tx (jtx j))) []) []
 | d,.mk k n t ns is,hd,h=>by
  unfold R7 at h
  rcases h with ⟨rfl,rfl,rfl,rfl,rfl⟩ | ⟨rfl,hb,rfl,rfl,rfl⟩ | ⟨rfl,h1,rfl,rfl,rfl⟩ | ⟨rfl,rfl,h1,rfl,rfl⟩ | ⟨rfl,rfl,hl,hkk0,hs0⟩
  · refine F9 mixed ok60 rfl (fun _=>rfl) ?_
    unfold ir60
    rw [b8,s7]
    simp [d6,s8,L3,b7,c8,tx,num,Y8,jnull,s9]
  · rcases hb with rfl | rfl
    · refine F9 mixed ok60 rfl (fun _=>rfl) ?_
      unfold ir60
      rw [b8,s7]
      simp [d6,s8,L3,b7,c8,tx,num,Y8,jfalse,s9]
    · refine F9 mixed ok60 rfl (fun _=>rfl) ?_
      unfold ir60
      rw [b8,s7]
      simp [d6,s8,L3,b7,c8,tx,num,Y8,jtrue,s9]
  · refine F9 mixed ok60 rfl (fun _=>rfl) ?_
    unfold ir60
    rw [b8,s7]
    simp [d6,s8,L3,b7,c8,tx,num]
    refine d7 rfl rfl (.inl rfl) (c2h n (by omega) (by omega)) ?_
    simp [Y8,tx]
  · refine F9 mixed ok60 rfl (fun _=>rfl) ?_
    unfold ir60
    rw [b8,s7]
    simp [d6,s8,L3,b7,c8,tx,num]
    refine d7 rfl rfl (.inl rfl) (c09 t (by omega)) ?_
    simp [Y8,tx]
  · cases d with
    | zero=>exact hs0.elim
    | succ d=>
    have hs:∀ x∈is,R7 d x:=hs0
    have hkk:k=5∨(k=6∧ns.length=is.length∧∀ s∈ns,s.length≤120):=by
     rcases hkk0 with ⟨h,_⟩ | ⟨h,h2,_,h4⟩
     · exact .inl h
     · exact .inr ⟨h,h2,h4⟩
    exact c3g k 0 [] ns is (by omega) hkk hl hs (fun x hx=>b9i d x (by omega) (hs x hx))
end
end Go.Proofs
end
section
namespace Go.Proofs
open Go.PW Go.KP
attribute [local simp] RV.cells RV.one PV.cells PV.solid PV.one G5 a8 O1 O3 RV.ofCells elems PV.killL
variable [GF]
def W6:Nat→LJson→Bool
 | 0,_=>false
 | d+1,.mk k n t ns is=>if k=5∨k=6 then decide (0 < d) && is.all (W6 d) else true
theorem b5p (g:Nat) (k n:Int) (t:Tx) (d:Nat) (hd:d≤5) (h:R7 g (.mk k n t [] [])) (hk:¬ (k=5∨k=6)):i7 Tryz.prog 255 [.val (K6 (.mk k n t [] [])),.val (num ((d+1:Nat):Int))] (.ret (.val (.bool true)) []) []:=by
 unfold R7 at h
 refine F9 mixed ok255 rfl (fun _=>rfl) ?_
 unfold ir255
 rw [b8,s7]
 rcases h with ⟨rfl,rfl,rfl,_,_⟩ | ⟨rfl,hb,rfl,_,_⟩ | ⟨rfl,h1,rfl,_,_⟩ | ⟨rfl,rfl,h1,_,_⟩ | ⟨rfl,rfl,hl,hkk0,hs0⟩
 · simp [d6,s8,L3,b7,c8,tx,num,s9,R2]
 · simp [d6,s8,L3,b7,c8,tx,num,s9,R2]
   refine d7 rfl rfl (.inl rfl) (a8e .i64 n 0 1) ?_
   rcases hb with rfl | rfl<;>simp [d6,s8,L3,b7,c8,tx,num,s9,R2]
 · simp [d6,s8,L3,b7,c8,tx,num,s9,R2]
   refine d7 rfl rfl (.inl rfl) (a8e .i64 n (-999999999) 999999999) ?_
   simp [d6,s8,L3,b7,c8,tx,num,s9,R2,h1]
 · have h2:(t.length:Int)≤120:=by omega
   simp [d6,s8,L3,b7,c8,tx,num,s9,R2,b9,h1,h2]
 · rcases hkk0 with ⟨h,_⟩ | ⟨h,_⟩<;>exact absurd (by simp [h]) hk
theorem b5o (d:Nat) (k:Int) (ns:List Tx) (is:List LJson) (hd:d≤5) (hl:is.length≤12) (hk:k=5∧ns=[]∨k=6∧ns.length=is.length∧ns.Nodup∧∀ s∈ns,s.length≤120)
 (hCs:0 < d→∀ x∈is,i7 Tryz.prog 255 [.val (K6 x),.val (num (d:Int))] (.ret (.val (.bool (W6 d x))) []) []):i7 Tryz.prog 255 [.val (K6 (.mk k 0 [] ns is)),.val (num ((d+1:Nat):Int))] (.ret (.val (.bool (decide (0 < d) && is.all (W6 d)))) []) []:=by
 obtain ⟨R,hR⟩:∃ R,(decide (0 < d) && is.all (W6 d))=R:=⟨_,rfl⟩
 rw [hR]
 refine F9 mixed ok255 rfl (fun _=>rfl) ?_
 have hl':¬ (12:Int) < (is.length:Int):=by omega
 rcases Nat.eq_zero_or_pos d with rfl | hd0
 · simp at hR
   subst hR
   unfold ir255
   rw [b8,s7]
   rcases hk with ⟨rfl,rfl⟩ | ⟨rfl,hn,hnd,hns⟩
   · simp [d6,s8,L3,b7,c8,tx,num,s9,R2]
   · simp [d6,s8,L3,b7,c8,tx,num,s9,R2]
     refine P8 (fun h=>?_) (fun h=>?_)
     all_goals simp [d6,s8,L3,b7,c8,tx,num,s9,R2,h]
 · have hd1:¬ (d:Int)+1=1:=by omega
   have hd2:¬ d=0:=by omega
   obtain ⟨Z,hZ⟩:∃ Z,a4o [.t 4] (.val (.bool R))=Z:=⟨_,rfl⟩
   rw [hZ]
   unfold ir255
   rw [b8,s7]
   rcases hk with ⟨rfl,rfl⟩ | ⟨rfl,hn,hnd,hns⟩
   · simp [d6,s8,L3,b7,c8,tx,num,s9,R2,hd1,hd2,hl,hl']
     refine P5 (X:=Nat) (fun i=>⟨P9 [(1,.val (num ((d:Int)+1))),(2,.ptr 2 0),(6,.val (num (i:Int)))],Q1 [(2,.box [.val (num 5),.val (num 0),.val (tx []),.val (.list 1 []),.val (.list 5 (is.map K6))])]⟩)
      (fun i=>i≤is.length∧∀ j (h:j < is.length),j < i→W6 d is[j]=true) (fun i=>is.length - i) 0 (Le.mk _ _ ?_ ?_) ⟨Nat.zero_le _,fun j _ h=>absurd h (Nat.not_lt_zero _)⟩ ?_
     · simp [num,tx,PV.kill]
     · simp [num,tx,MObj.kill,PV.kill,PV.killL,s9]
     · rintro i ⟨hi,hall⟩
       have wi:IntKind.i64.wrap ((i:Int)+1)=((i+1:Nat):Int):=by rw [wrap_i64 (by omega) (by omega)];omega
       have wd:IntKind.i64.wrap (d:Int)=(d:Int):=wrap_i64 (by omega) (by omega)
       by_cases h1:i < is.length
       · have hC:=hCs hd0 is[i] (List.getElem_mem h1)
         obtain ⟨y,hy⟩:∃ y,is[i]=y:=⟨_,rfl⟩
         obtain ⟨b,hb⟩:∃ b,W6 d is[i]=b:=⟨_,rfl⟩
         rw [hb,hy] at hC
         obtain ⟨a1,a2,a3,a4,a5⟩:=y
         rw [s7] at hC
         simp [num,tx,h1,hy,s7,wd]
         refine V7 rfl rfl (.inl rfl) hC ?_
         cases b with
         | true=>
          simp [num,tx,h1,hy,s7]
          refine LoopNext.mk (i+1) ⟨h1,fun j hj hji=>?_⟩ (by omega) (Le.mk _ _ ?_ ?_)
          · by_cases e:j=i
            · subst e;exact hb
            · exact hall j hj (by omega)
          · simp [num,wi,tx]
          · simp [num,tx]
         | false=>
          simp [num,tx,h1,hy,s7]
          have hf:R=false:=by
           rw [← hR]
           have:is.all (W6 d)=false:=by
            rw [Bool.eq_false_iff];intro ha
            have:=List.all_eq_true.1 ha is[i] (List.getElem_mem h1)
            rw [hb] at this;cases this
           rw [this,Bool.and_false]
          rw [← hZ,hf]
          simp [num,tx]
       · have ht:R=true:=by
          rw [← hR,decide_eq_true hd0,Bool.true_and,List.all_eq_true]
          intro x hx
          obtain ⟨j,hj,rfl⟩:=List.mem_iff_getElem.1 hx
          exact hall j hj (by omega)
         simp [num,tx,h1]
         rw [← hZ,ht]
         simp [num,tx]
   · have hnl:(ns.length:Int)=(is.length:Int):=by omega
     by_cases en:is=[]
     · subst en
       have hns0:ns=[]:=List.eq_nil_of_length_eq_zero hn
       subst hns0
       have ht:R=true:=by rw [← hR,decide_eq_true hd0];rfl
       simp [d6,s8,L3,b7,c8,tx,num,s9,R2,hd1,hd2]
       refine P5 (X:=Unit) (fun _=>⟨P9 [(1,.val (num ((d:Int)+1))),(2,.ptr 2 0),(6,.val (num 0))],Q1 [(2,.box [.val (num 6),.val (num 0),.val (tx []),.val (.list 1 []),.val (.list 5 [])])]⟩) (fun _=>True) (fun _=>0) () (Le.mk _ _ ?_ ?_) trivial ?_
       · simp [num,tx,PV.kill]
       · simp [num,tx,MObj.kill,PV.kill,PV.killL,s9]
       · rintro _ _
         simp [num,tx]
         rw [← hZ,ht]
         simp [num,tx]
     · have en2:¬ ns=[]:=fun h=>en (List.eq_nil_of_length_eq_zero (by rw [← hn,h];rfl))
       simp [d6,s8,L3,b7,c8,tx,num,s9,R2,hd1,hd2,hl,hl',hn,en,en2]
       refine P5 (X:=Nat) (fun i=>⟨P9 [(1,.val (num ((d:Int)+1))),(2,.ptr 2 0),(6,.val (num (i:Int)))],Q1 [(2,.box [.val (num 6),.val (num 0),.val (tx []),.val (.list 1 (ns.map tx)),.val (.list 5 (is.map K6))])]⟩)
        (fun i=>i≤is.length∧∀ j (h:j < is.length),j < i→W6 d is[j]=true) (fun i=>is.length - i) 0 (Le.mk _ _ ?_ ?_) ⟨Nat.zero_le _,fun j _ h=>absurd h (Nat.not_lt_zero _)⟩ ?_
       · simp [num,tx,PV.kill]
       · simp [num,tx,MObj.kill,PV.kill,PV.killL,s9]
       · rintro i ⟨hi,hall⟩
         have wi:IntKind.i64.wrap ((i:Int)+1)=((i+1:Nat):Int):=by rw [wrap_i64 (by omega) (by omega)];omega
         have wd:IntKind.i64.wrap (d:Int)=(d:Int):=wrap_i64 (by omega) (by omega)
         by_cases h1:i < is.length
         · have hC:=hCs hd0 is[i] (List.getElem_mem h1)
           obtain ⟨y,hy⟩:∃ y,is[i]=y:=⟨_,rfl⟩
           obtain ⟨b,hb⟩:∃ b,W6 d is[i]=b:=⟨_,rfl⟩
           rw [hb,hy] at hC
           obtain ⟨a1,a2,a3,a4,a5⟩:=y
           rw [s7] at hC
           have h2:i < ns.length:=by omega
           obtain ⟨u,hu⟩:∃ u,ns[i]=u:=⟨_,rfl⟩
           have hul:u.length≤120:=by rw [← hu];exact hns _ (List.getElem_mem h2)
           have hul':¬ (120:Int) < (u.length:Int):=by omega
           have hH:=b7y (ns.take i) u (by rw [List.length_take];omega)
           have hun:u∉ns.take i:=by
            rw [← hu]
            intro hm
            obtain ⟨q,hq,he⟩:=List.mem_iff_getElem.1 hm
            rw [List.length_take] at hq
            rw [List.getElem_take] at he
            have:=(List.getElem_inj hnd).1 he
            omega
           rw [decide_eq_false hun] at hH
           simp [num,tx,h1,hy,s7,wd]
           refine V7 rfl rfl (.inl rfl) hC ?_
           cases b with
           | true=>
            simp [num,tx,h1,h2,hy,hu,hul',b9,s7]
            refine ⟨by omega,?_⟩
            refine V7 (by simp [Q0,avOf,tx]) rfl (.inl rfl) hH ?_
            simp [num,tx,h1,h2,hy,hu,hul',b9,s7]
            refine LoopNext.mk (i+1) ⟨h1,fun j hj hji=>?_⟩ (by omega) (Le.mk _ _ ?_ ?_)
            · by_cases e:j=i
              · subst e;exact hb
              · exact hall j hj (by omega)
            · simp [num,wi,tx]
            · simp [num,tx]
           | false=>
            simp [num,tx,h1,hy,s7]
            have hf:R=false:=by
             rw [← hR]
             have:is.all (W6 d)=false:=by
              rw [Bool.eq_false_iff];intro ha
              have:=List.all_eq_true.1 ha is[i] (List.getElem_mem h1)
              rw [hb] at this;cases this
             rw [this,Bool.and_false]
            rw [← hZ,hf]
            simp [num,tx]
         · have ht:R=true:=by
            rw [← hR,decide_eq_true hd0,Bool.true_and,List.all_eq_true]
            intro x hx
            obtain ⟨j,hj,rfl⟩:=List.mem_iff_getElem.1 hx
            exact hall j hj (by omega)
           simp [num,tx,h1]
           rw [← hZ,ht]
           simp [num,tx]
theorem c1c:∀ (d g:Nat) (j:LJson),d≤5→R7 g j→i7 Tryz.prog 255 [.val (K6 j),.val (num ((d+1:Nat):Int))] (.ret (.val (.bool (W6 (d+1) j))) []) []
 | d,g,.mk k n t ns is,hd,h=>by
  by_cases hk:k=5∨k=6
  · have h':=h
    unfold R7 at h'
    rcases h' with ⟨rfl,_⟩ | ⟨rfl,_⟩ | ⟨rfl,_⟩ | ⟨rfl,_⟩ | ⟨rfl,rfl,hl,hkk,hs⟩
    · exact absurd hk (by decide)
    · exact absurd hk (by decide)
    · exact absurd hk (by decide)
    · exact absurd hk (by decide)
    · have e:W6 (d+1) (.mk k 0 [] ns is)=(decide (0 < d) && is.all (W6 d)):=by rw [W6,if_pos hk]
      rw [e]
      refine b5o d k ns is hd hl hkk (fun hd0 x hx=>?_)
      cases g with
      | zero=>exact hs.elim
      | succ g=>
       match d,hd0 with
       | d+1,_=>exact c1c d g x (by omega) (hs x hx)
  · have e:W6 (d+1) (.mk k n t ns is)=true:=by rw [W6,if_neg hk]
    rw [e]
    have h':=h
    unfold R7 at h'
    have hn:ns=[]∧is=[]:=by
     rcases h' with ⟨_,_,_,h1,h2⟩ | ⟨_,_,_,h1,h2⟩ | ⟨_,_,_,h1,h2⟩ | ⟨_,_,_,h1,h2⟩ | ⟨_,_,_,⟨h1,_⟩ | ⟨h1,_⟩,_⟩
     · exact ⟨h1,h2⟩
     · exact ⟨h1,h2⟩
     · exact ⟨h1,h2⟩
     · exact ⟨h1,h2⟩
     · exact absurd (.inl h1) hk
     · exact absurd (.inr h1) hk
    obtain ⟨rfl,rfl⟩:=hn
    exact b5p g k n t d hd h hk
end Go.Proofs
end
section
namespace Go.Proofs
open Go.PW Go.KP
attribute [local simp] RV.cells RV.one PV.cells PV.solid PV.one G5 a8 O1 O3 RV.ofCells elems PV.killL
variable [GF]
def c02 (t:Tx):Bool:=decide ((R5 t).2=0) && (decide ((R5 t).1.kind=6) && (W6 3 (R5 t).1 && decide (jtx (R5 t).1=t)))
theorem c2z (t:Tx) (ht:t.length≤1048576):i7 Tryz.prog 225 [.val (tx t)] (.ret (.val (.bool (c02 t))) []) []:=by
 refine F9 mixed ok225 rfl (fun _=>rfl) ?_
 have hr:=b33 t ht
 unfold c1q at hr
 have hg:(R5 t).1.kind=6→R7 4 (R5 t).1:=fun h=>by
  unfold R5 at h ⊢
  cases hj:a6n t with
  | ok x k=>exact a7w hj
  | err c=>rw [hj] at h;simp [LJson.kind] at h
 unfold ir225 c02
 obtain ⟨J,hJ⟩:∃ J,R5 t=J:=⟨_,rfl⟩
 rw [hJ] at hr hg ⊢
 obtain ⟨⟨k,n,tt,ns,is⟩,c⟩:=J
 simp only [LJson.kind] at hr hg ⊢
 rw [b8]
 rw [s7] at hr
 simp [d6,s8,L3,b7,c8,num,tx,s9]
 refine S7 rfl rfl (.inl rfl) hr ?_
 simp [num,tx]
 by_cases h0:c=0
 · by_cases h6:k=6
   · have hgd:=hg h6
     have h1:=c1c 2 4 _ (by omega) hgd
     have h2:=a7d 4 _ (by omega) hgd
     rw [s7] at h1 h2
     simp [num,tx,h0,h6]
     rw [h6] at h1 h2 ⊢
     refine d7 rfl rfl (.inl rfl) h1 ?_
     cases hd:W6 3 (.mk 6 n tt ns is) with
     | true=>
      simp [num,tx,h0,h6,hd]
      refine d7 rfl rfl (.inl rfl) h2 ?_
      simp [num,tx,h0,h6,hd,R2]
     | false=>
      simp [num,tx,h0,h6,hd]
   · simp [num,tx,h0,h6]
 · simp [num,tx,h0]
def pOK (a b:Int) (t:Tx):Bool:=decide (1≤a∧a≤1000000) && (decide (0≤b∧b≤1000000) && (decide (t.length≤8000) && c02 t))
theorem c_l10OK (a b:Int) (t:Tx):i7 Tryz.prog 178 [.val (.agg [num a,num b,tx t])] (.ret (.val (.bool (pOK a b t))) []) []:=by
 refine F9 mixed ok178 rfl (fun _=>rfl) ?_
 unfold ir178 pOK
 rw [b8]
 simp [d6,s8,L3,b7,c8,num,tx,s9,b9]
 refine d7 rfl rfl (.inl rfl) (a8e .i64 a 1 1000000) ?_
 by_cases h1:1≤a∧a≤1000000
 · rw [decide_eq_true h1]
   simp [num,tx]
   refine d7 rfl rfl (.inl rfl) (a8e .i64 b 0 1000000) ?_
   by_cases h2:0≤b∧b≤1000000
   · rw [decide_eq_true h2]
     by_cases h3:t.length≤8000
     · have h3':(t.length:Int)≤8000:=by omega
       simp [num,tx,b9,h3,h3']
       refine d7 rfl rfl (.inl rfl) (c2z t (by omega)) ?_
       simp [num,tx,h3]
     · have h3':¬ (t.length:Int)≤8000:=by omega
       simp [num,tx,b9,h3,h3']
   · rw [decide_eq_false h2]
     simp [num,tx]
 · rw [decide_eq_false h1]
   simp [num,tx]
end Go.Proofs
end
section
namespace Go.Proofs
open Go.PW Go.KP
attribute [local simp] RV.cells RV.one PV.cells PV.solid PV.one G5 a8 O1 O3 RV.ofCells elems PV.killL
variable [GH]
theorem a63 (l:List LJson) (g:Nat) (c0:RV) (p:LJson→Bool) (hl:l.length < 1099511627776) (hg:fnB Tryz.prog g=true)
 (hp:∀ x∈l,i7 Tryz.prog g [.val (K6 x),.box [c0]] (.ret (.val (.bool (p x))) []) [[c0]]) :
 i7 Tryz.prog 235 [.val (.list 5 (l.map K6)),.fn g [.box [c0]]] (.ret (.val (num (a2r l p))) []) [[c0]]:=by
 refine a9b mixed ok235 rfl (fun _=>rfl) ?_
 unfold ir235
 rw [b8]
 simp [d6,s8,L3,b7,c8,L3,s8]
 refine P5 (X:=Nat) (fun i=>⟨P9 [(0,.val (.list 5 (l.map K6))),(1,.fn g [.ptr 900 0]),(7,.val (num l.length)),(8,.val (num i))],Q1 [(900,.box [.val c0])]⟩) (fun i=>i≤l.length∧∀ k (hk:k < i) (hk':k < l.length),p l[k]=false) (fun i=>l.length - i) 0 (Le.mk _ _ ?_ ?_) ?_ ?_
 · simp [upd,num]
 · simp
 · simp
 · rintro i ⟨hi,hne⟩
   simp [num]
   refine P8 (fun h1=>?_) (fun h1=>?_)
   · have hc:=hp l[i] (List.getElem_mem h1)
     obtain ⟨x,hx⟩:∃ x,l[i]=x:=⟨_,rfl⟩
     have hpx:p l[i]=p x:=by rw [hx]
     rw [hx] at hc
     obtain ⟨a1,a2,a3,a4,a5⟩:=x
     rw [s7] at hc
     simp [num,h1,hx,s7,tx,hg]
     refine a7a (ids:=[900]) rfl rfl (by simp) (by decide) (by simp [b2f,x8,F7,y0,F5,y6,p9,x9,F6,j4,A4,G7,G8,d4,o0,o9,f8,y7,p8,i6,F4,x7,p7,p6,D2,D3,T8,T9,Option.getD_some,Option.getD_none,B9,t6,l9,C9,l8,k8,D1,k9,D0,C8,C7,H2,v7,l6,C5,u9,l5,C4,B7,C6,v6,C2,k7,u7,C3,H4,H3,B8,C0,l4,C1,v8,l7,A7,j6,B6,B5,B4,G9,u5,j8,B2,u3,j7,B1,A5,B3,u4,A9,j5,u2,B0,H1,H0,A6,u1,k6,A8,u6,j9,J0,I9,K3,J1,J5,J3,J2,K2,J4,J6,J7,J8,J9,z7,z6,y9,L4,L5,L2,F8,t7,D7,w6,K5,q7,P0,L8,K8,N0,N2,N1,P1,P2,I2,I4,I3,I5,I6,M7,w8,M6,D8,D9,E4,w9,U1,F1,x6,O8,O9,H5,L6,L7,Option.map_some,Option.map_none,E5,x4,w5,n0,D5,D6,H7,H6,N7,N6,I8,F2,F3,I7,N3,N4,H8,n8,H9,n7,M2,F0,E9,f9,M9,N5,I1,M3,M5,M4,w7,A1,A3,A2,d8,M8,P4,P3,L9,I0,Q6,M1,n9,E7,E8,x5,E6,f7,t8,f6,u0,d9,K4,N8,N9,z8,A0,G3,G0,D4]) rfl hc ?_
     cases hpi:p (.mk a1 a2 a3 a4 a5) with
     | true=>
      simp [a8g,V2]
      rw [a44 h1 (by rw [hpx,hpi]) (fun k hk=>hne k hk (by omega))];rfl
     | false=>
      simp
      refine LoopNext.mk (i+1) ⟨by omega,fun k hk hk'=>?_⟩ (by omega) (Le.mk _ _ ?_ ?_)
      · by_cases e:k=i
        · subst e;rw [hpx,hpi]
        · exact hne k (by omega) hk'
      · simp [num];exact wrap_i64 (by omega) (by omega)
      · simp
   · have e:i=l.length:=by omega
     subst e
     simp [num,a8g,V2]
     rw [a3v (fun k hk=>hne k hk hk)]
theorem a4t (l:List LJson) (g:Nat) (c0:RV) (p:LJson→Bool) (hl:l.length < 1099511627776) (hg:fnB Tryz.prog g=true)
 (hp:∀ x∈l,i7 Tryz.prog g [.val (K6 x),.box [c0]] (.ret (.val (.bool (p x))) []) [[c0]]) :
 i7 Tryz.prog 187 [.val (.list 5 (l.map K6)),.fn g [.box [c0]]] (.ret (.val (.bool (l.any p))) []) [[c0]]:=by
 refine a9b mixed ok187 rfl (fun _=>rfl) ?_
 unfold ir187
 rw [b8]
 simp [d6,s8,L3,b7,c8,L3,s8]
 refine a7a (ids:=[900]) rfl rfl (by simp) (by decide) (by simp [b2f,x8,F7,y0,F5,y6,p9,x9,F6,j4,A4,G7,G8,d4,o0,o9,f8,y7,p8,i6,F4,x7,p7,p6,D2,D3,T8,T9,Option.getD_some,Option.getD_none,B9,t6,l9,C9,l8,k8,D1,k9,D0,C8,C7,H2,v7,l6,C5,u9,l5,C4,B7,C6,v6,C2,k7,u7,C3,H4,H3,B8,C0,l4,C1,v8,l7,A7,j6,B6,B5,B4,G9,u5,j8,B2,u3,j7,B1,A5,B3,u4,A9,j5,u2,B0,H1,H0,A6,u1,k6,A8,u6,j9,J0,I9,K3,J1,J5,J3,J2,K2,J4,J6,J7,J8,J9,z7,z6,y9,L4,L5,L2,F8,t7,D7,w6,K5,q7,P0,L8,K8,N0,N2,N1,P1,P2,I2,I4,I3,I5,I6,M7,w8,M6,D8,D9,E4,w9,U1,F1,x6,O8,O9,H5,L6,L7,Option.map_some,Option.map_none,E5,x4,w5,n0,D5,D6,H7,H6,N7,N6,I8,F2,F3,I7,N3,N4,H8,n8,H9,n7,M2,F0,E9,f9,M9,N5,I1,M3,M5,M4,w7,A1,A3,A2,d8,M8,P4,P3,L9,I0,Q6,M1,n9,E7,E8,x5,E6,f7,t8,f6,u0,d9,K4,N8,N9,z8,A0,G3,G0,D4]) rfl (a63 l g c0 p hl hg hp) ?_
 simp [num,a8g,V2]
 exact c0v l p
theorem a05 {K:Kx (PExit→St→Prop)} (d:Nat) (k n:Int) (t:Tx) (ns:List Tx) (is:List LJson) (hd:d≤5) (hl:is.length≤12) (hnl:ns.length≤12) (hnd:ns.Nodup) (hns:∀ s∈ns,s.length≤120)
 (hC:∀ x∈is,i7 Tryz.prog 124 [.val (K6 x),.val (num (d:Int))] (.ret (.val (.bool (W6 d x))) []) [])
 (st:St) (e2:st.env 2=.ptr 2 0) (e3:st.env 3=.ptr 3 0) (m2:st.mem 2=.box [.val (num k),.val (num n),.val (tx t),.val (.list 1 (ns.map tx)),.val (.list 5 (is.map K6))]) (m3:st.mem 3=.box [.val (num ((d:Int)+1))])
 (hK:∀ st':St,st'.env 4=.val (.bool (is.all (W6 d)))→K.k .ret st'):EC Tryz.prog ir124_from5 st (K:=K):=by
 unfold ir124_from5
 simp [e2,e3,m2,m3,num,tx]
 refine P5 (X:=Nat) (fun i=>⟨P9 [(2,.ptr 2 0),(3,.ptr 3 0),(86,.val (.list 1 (ns.map tx))),(87,.val (num ns.length)),(88,.val (num i))],Q1 [(2,.box [.val (num k),.val (num n),.val (tx t),.val (.list 1 (ns.map tx)),.val (.list 5 (is.map K6))]),(3,.box [.val (num ((d:Int)+1))])]⟩) (fun i=>i≤ns.length) (fun i=>ns.length - i) 0 (Le.mk _ _ ?_ ?_) (Nat.zero_le _) ?_
 · simp [e2,e3,num,tx,PV.kill]
 · simp [m2,m3,num,tx,MObj.kill,PV.kill,PV.killL]
 · intro i hi
   by_cases h1:i < ns.length
   · obtain ⟨u,hu⟩:∃ u,ns[i]=u:=⟨_,rfl⟩
     have hul:u.length≤120:=by rw [← hu];exact hns _ (List.getElem_mem h1)
     have hul':¬ (120:Int) < (u.length:Int):=by omega
     have hH:=a5a (ns.take i) u (by rw [List.length_take];omega)
     have hun:u∉ns.take i:=by
      rw [← hu]
      intro hm
      obtain ⟨q,hq,he⟩:=List.mem_iff_getElem.1 hm
      rw [List.length_take] at hq
      rw [List.getElem_take] at he
      have:=(List.getElem_inj hnd).1 he
      omega
     simp only [hun,decide_false,List.map_take] at hH
     have wi:IntKind.i64.wrap ((i:Int)+1)=((i+1:Nat):Int):=by rw [wrap_i64 (by omega) (by omega)];omega
     simp [num,tx,h1,hu,hul',b9]
     refine ⟨by omega,?_⟩
     refine d7 rfl rfl (.inl rfl) hH ?_
     simp [num,tx,h1,hu,hul',b9]
     refine LoopNext.mk (i+1) h1 (by omega) (Le.mk _ _ ?_ ?_)
     · simp [num,wi,tx]
     · simp [num,tx]
   · have hCF:=a4t is 188 (num ((d:Int)+1)) (fun x=>!W6 d x) (by omega) (by kernel_rfl) (fun x hx=>by
      have hc:=hC x hx
      obtain ⟨b,hb⟩:∃ b,W6 d x=b:=⟨_,rfl⟩
      rw [hb] at hc ⊢
      obtain ⟨a1,a2,a3,a4,a5⟩:=x
      refine a9b mixed ok188 rfl (fun _=>rfl) ?_
      have wd:IntKind.i64.wrap (d:Int)=(d:Int):=wrap_i64 (by omega) (by omega)
      unfold ir188
      rw [s7] at hc ⊢
      rw [b8]
      simp [d6,s8,L3,b7,c8,tx,num,L3,s8,wd]
      refine d7 rfl rfl (.inl rfl) hc ?_
      simp [num,tx,a8g,V2])
     simp [num,tx,h1]
     refine a7a (ids:=[3]) rfl rfl (by simp) (by decide) (by simp [b2f,x8,F7,y0,F5,y6,p9,x9,F6,j4,A4,G7,G8,d4,o0,o9,f8,y7,p8,i6,F4,x7,p7,p6,D2,D3,T8,T9,Option.getD_some,Option.getD_none,B9,t6,l9,C9,l8,k8,D1,k9,D0,C8,C7,H2,v7,l6,C5,u9,l5,C4,B7,C6,v6,C2,k7,u7,C3,H4,H3,B8,C0,l4,C1,v8,l7,A7,j6,B6,B5,B4,G9,u5,j8,B2,u3,j7,B1,A5,B3,u4,A9,j5,u2,B0,H1,H0,A6,u1,k6,A8,u6,j9,J0,I9,K3,J1,J5,J3,J2,K2,J4,J6,J7,J8,J9,z7,z6,y9,L4,L5,L2,F8,t7,D7,w6,K5,q7,P0,L8,K8,N0,N2,N1,P1,P2,I2,I4,I3,I5,I6,M7,w8,M6,D8,D9,E4,w9,U1,F1,x6,O8,O9,H5,L6,L7,Option.map_some,Option.map_none,E5,x4,w5,n0,D5,D6,H7,H6,N7,N6,I8,F2,F3,I7,N3,N4,H8,n8,H9,n7,M2,F0,E9,f9,M9,N5,I1,M3,M5,M4,w7,A1,A3,A2,d8,M8,P4,P3,L9,I0,Q6,M1,n9,E7,E8,x5,E6,f7,t8,f6,u0,d9,K4,N8,N9,z8,A0,G3,G0,D4,tx,num]) rfl hCF ?_
     simp [num,tx]
     refine hK _ ?_
     simp [List.all_eq_not_any_not]
theorem b5g (d g:Nat) (k n:Int) (t:Tx) (hd:d≤5) (h:R7 g (.mk k n t [] [])) (hk:¬ (k=5∨k=6)):i7 Tryz.prog 124 [.val (K6 (.mk k n t [] [])),.val (num ((d+1:Nat):Int))] (.ret (.val (.bool true)) []) []:=by
 unfold R7 at h
 refine F9 mixed ok124 rfl (fun _=>rfl) ?_
 have hd1:¬ (d:Int)+1=0:=by omega
 unfold ir124
 rw [b8,s7]
 rcases h with ⟨rfl,rfl,rfl,_,_⟩ | ⟨rfl,hb,rfl,_,_⟩ | ⟨rfl,h1,rfl,_,_⟩ | ⟨rfl,rfl,h1,_,_⟩ | ⟨rfl,rfl,hl,hkk0,hs0⟩
 · simp [d6,s8,L3,b7,c8,tx,num,s9,R2,hd1]
   refine a05 d 1 0 [] [] [] hd (by simp) (by simp) (by simp) (by simp) (by simp) _ ?_ ?_ ?_ ?_ (fun st' h4=>by simp [h4])
   all_goals simp [num,tx,s9]
 · simp [d6,s8,L3,b7,c8,tx,num,s9,R2,hd1]
   refine d7 rfl rfl (.inl rfl) (a0r n 0 1) ?_
   have h01:0≤n∧n≤1:=by omega
   simp [tx,num,s9,R2,hd1,h01]
   refine a05 d 2 n [] [] [] hd (by simp) (by simp) (by simp) (by simp) (by simp) _ ?_ ?_ ?_ ?_ (fun st' h4=>by simp [h4])
   all_goals simp [num,tx,s9]
 · simp [d6,s8,L3,b7,c8,tx,num,s9,R2,hd1]
   refine d7 rfl rfl (.inl rfl) (a0r n (-999999999) 999999999) ?_
   simp [tx,num,s9,R2,hd1,h1]
   refine a05 d 3 n [] [] [] hd (by simp) (by simp) (by simp) (by simp) (by simp) _ ?_ ?_ ?_ ?_ (fun st' h4=>by simp [h4])
   all_goals simp [num,tx,s9]
 · have h2:(t.length:Int)≤120:=by omega
   simp [d6,s8,L3,b7,c8,tx,num,s9,R2,b9,hd1,h2]
   refine a05 d 4 0 t [] [] hd (by simp) (by simp) (by simp) (by simp) (by simp) _ ?_ ?_ ?_ ?_ (fun st' h4=>by simp [h4])
   all_goals simp [num,tx,s9]
 · rcases hkk0 with ⟨h,_⟩ | ⟨h,_⟩<;>exact absurd (by simp [h]) hk
theorem b5f (d:Nat) (k:Int) (ns:List Tx) (is:List LJson) (hd:d≤5) (hl:is.length≤12) (hk:k=5∧ns=[]∨k=6∧ns.length=is.length∧ns.Nodup∧∀ s∈ns,s.length≤120)
 (hCs:0 < d→∀ x∈is,i7 Tryz.prog 124 [.val (K6 x),.val (num (d:Int))] (.ret (.val (.bool (W6 d x))) []) []):i7 Tryz.prog 124 [.val (K6 (.mk k 0 [] ns is)),.val (num ((d+1:Nat):Int))] (.ret (.val (.bool (decide (0 < d) && is.all (W6 d)))) []) []:=by
 refine F9 mixed ok124 rfl (fun _=>rfl) ?_
 have hd1:¬ (d:Int)+1=0:=by omega
 have hl':(is.length:Int)≤12:=by omega
 unfold ir124
 rw [b8,s7]
 rcases Nat.eq_zero_or_pos d with rfl | hd0
 · rcases hk with ⟨rfl,rfl⟩ | ⟨rfl,hn,hnd,hns⟩
   · simp [d6,s8,L3,b7,c8,tx,num,s9,R2,hl']
   · simp [d6,s8,L3,b7,c8,tx,num,s9,R2,hl']
 · have hd2:¬ (d:Int)+1≤1:=by omega
   have hd3:(1:Int) < (d:Int)+1:=by omega
   rw [decide_eq_true hd0,Bool.true_and]
   rcases hk with ⟨rfl,rfl⟩ | ⟨rfl,hn,hnd,hns⟩
   · simp [d6,s8,L3,b7,c8,tx,num,s9,R2,hl',hd1,hd2,hd3,hd0]
     refine a05 d 5 0 [] [] is hd hl (by simp) (by simp) (by simp) (hCs hd0) _ ?_ ?_ ?_ ?_ (fun st' h4=>by simp [h4])
     all_goals simp [num,tx,s9]
   · have hnl:(ns.length:Int)=(is.length:Int):=by omega
     simp [d6,s8,L3,b7,c8,tx,num,s9,R2,hl',hd1,hd2,hd3,hd0,hnl]
     refine a05 d 6 0 [] ns is hd hl (by omega) hnd hns (hCs hd0) _ ?_ ?_ ?_ ?_ (fun st' h4=>by simp [h4])
     all_goals simp [num,tx,s9]
theorem c08:∀ (d g:Nat) (j:LJson),d≤5→R7 g j→i7 Tryz.prog 124 [.val (K6 j),.val (num ((d+1:Nat):Int))] (.ret (.val (.bool (W6 (d+1) j))) []) []
 | d,g,.mk k n t ns is,hd,h=>by
  by_cases hk:k=5∨k=6
  · have h':=h
    unfold R7 at h'
    rcases h' with ⟨rfl,_⟩ | ⟨rfl,_⟩ | ⟨rfl,_⟩ | ⟨rfl,_⟩ | ⟨rfl,rfl,hl,hkk,hs⟩
    · exact absurd hk (by decide)
    · exact absurd hk (by decide)
    · exact absurd hk (by decide)
    · exact absurd hk (by decide)
    · have e:W6 (d+1) (.mk k 0 [] ns is)=(decide (0 < d) && is.all (W6 d)):=by rw [W6,if_pos hk]
      rw [e]
      refine b5f d k ns is hd hl hkk (fun hd0 x hx=>?_)
      cases g with
      | zero=>exact hs.elim
      | succ g=>
       match d,hd0 with
       | d+1,_=>exact c08 d g x (by omega) (hs x hx)
  · have e:W6 (d+1) (.mk k n t ns is)=true:=by rw [W6,if_neg hk]
    rw [e]
    have h':=h
    unfold R7 at h'
    have hn:ns=[]∧is=[]:=by
     rcases h' with ⟨_,_,_,h1,h2⟩ | ⟨_,_,_,h1,h2⟩ | ⟨_,_,_,h1,h2⟩ | ⟨_,_,_,h1,h2⟩ | ⟨_,_,_,⟨h1,_⟩ | ⟨h1,_⟩,_⟩
     · exact ⟨h1,h2⟩
     · exact ⟨h1,h2⟩
     · exact ⟨h1,h2⟩
     · exact ⟨h1,h2⟩
     · exact absurd (.inl h1) hk
     · exact absurd (.inr h1) hk
    obtain ⟨rfl,rfl⟩:=hn
    exact b5g d g k n t hd h hk
end Go.Proofs
end
section
namespace Go.Proofs
open Go.PW Go.KP
attribute [local simp] RV.cells RV.one PV.cells PV.solid PV.one G5 a8 O1 O3 RV.ofCells elems PV.killL
variable [GH]
theorem b9k (a b:Int) (t:Tx):i7 Tryz.prog 61 [.val (.agg [num a,num b,tx t])] (.ret (.val (.bool (pOK a b t))) []) []:=by
 refine F9 mixed ok61 rfl (fun _=>rfl) ?_
 unfold ir61 pOK
 rw [b8]
 simp [d6,s8,L3,b7,c8,num,tx,s9]
 refine d7 rfl rfl (.inl rfl) (a0r a 1 1000000) ?_
 by_cases h1:1≤a∧a≤1000000
 · rw [decide_eq_true h1]
   simp [num,tx]
   refine d7 rfl rfl (.inl rfl) (i_isNow b) ?_
   by_cases h2:0≤b∧b≤1000000
   · rw [decide_eq_true h2]
     by_cases h3:t.length≤8000
     · have h3':¬ (8000:Int) < (t.length:Int):=by omega
       have hr:=b1n t (by omega)
       have hg:(R5 t).1.kind=6→R7 4 (R5 t).1:=fun h=>by
        unfold R5 at h ⊢
        cases hj:a6n t with
        | ok x k=>exact a7w hj
        | err c=>rw [hj] at h;simp [LJson.kind] at h
       unfold rdP at hr
       unfold c02
       obtain ⟨J,hJ⟩:∃ J,R5 t=J:=⟨_,rfl⟩
       rw [hJ] at hr hg ⊢
       obtain ⟨⟨k,n,tt,ns,is⟩,c⟩:=J
       simp only [LJson.kind] at hr hg ⊢
       rw [s7] at hr
       simp [num,tx,b9,h3,h3']
       refine S7 rfl rfl (.inl rfl) hr ?_
       simp [num,tx]
       by_cases h0:c=0
       · by_cases h6:k=6
         · have hgd:=hg h6
           have q1:=c08 2 4 _ (by omega) hgd
           have q2:=b9i 4 _ (by omega) hgd
           rw [s7] at q1 q2
           simp [num,tx,h0,h6,LJson.kind]
           rw [h6] at q1 q2 ⊢
           refine V7 rfl rfl (.inl rfl) q1 ?_
           cases hd:W6 3 (.mk 6 n tt ns is) with
           | true=>
            simp [num,tx,h0,h6,hd,LJson.kind]
            refine V7 rfl rfl (.inl rfl) q2 ?_
            simp [num,tx,h0,h6,hd,R2,h3,LJson.kind]
           | false=>
            simp [num,tx,h0,h6,hd,LJson.kind]
         · simp [num,tx,h0,h6,LJson.kind]
       · simp [num,tx,h0]
     · have h3':(8000:Int) < (t.length:Int):=by omega
       simp [num,tx,b9,h3,h3']
   · rw [decide_eq_false h2]
     simp [num,tx]
 · rw [decide_eq_false h1]
   simp [num,tx]
def a8l:Tx:=[97,103,101]
def a2m:Tx:=[98,111,100,121]
def wId:Tx:=[105,100]
def b4r (x:LJson) (n:Tx):LJson×Bool:=Z2 x.names x.items n
def c32 (x:LJson):Bool:=(b4r x a8l).2 && ((b4r x a2m).2 && ((b4r x wId).2 && (decide (x.names.length=3) && (decide ((b4r x a8l).1.kind=3) && (decide ((b4r x wId).1.kind=3) && decide ((b4r x a2m).1.kind=6))))))
def b8v (x:LJson):LParcel:=⟨(b4r x wId).1.num,(b4r x a8l).1.num,jtx (b4r x a2m).1⟩
def b3e (x:LJson):Bool:=pOK (b8v x).id (b8v x).age (b8v x).body
def pOf (x:LJson):LParcel×Bool:=if c32 x then (b8v x,b3e x) else (⟨0,0,[]⟩,false)
theorem a48 {d:Nat} {k n:Int} {t:Tx} {ns:List Tx} {is:List LJson} (h:R7 d (.mk k n t ns is)):ns=[]∨k=6∧ns.length=is.length∧is.length≤12:=by
 unfold R7 at h
 rcases h with ⟨_,_,_,h1,h2⟩ | ⟨_,_,_,h1,h2⟩ | ⟨_,_,_,h1,h2⟩ | ⟨_,_,_,h1,h2⟩ | ⟨_,_,hl,⟨_,h1⟩ | ⟨h0,h1,_⟩,_⟩
 · exact .inl h1
 · exact .inl h1
 · exact .inl h1
 · exact .inl h1
 · exact .inl h1
 · exact .inr ⟨h0,h1,hl⟩
theorem a61 {d:Nat} {k n:Int} {t:Tx} {ns:List Tx} {is:List LJson} (h:R7 (d+1) (.mk k n t ns is)):∀ x∈is,R7 d x:=by
 unfold R7 at h
 rcases h with ⟨_,_,_,h1,h2⟩ | ⟨_,_,_,h1,h2⟩ | ⟨_,_,_,h1,h2⟩ | ⟨_,_,_,h1,h2⟩ | ⟨_,_,hl,_,hs⟩
 · subst h2;simp
 · subst h2;simp
 · subst h2;simp
 · subst h2;simp
 · exact hs
theorem b3p {d:Nat} {k n:Int} {t:Tx} {ns:List Tx} {is:List LJson} (w:Tx) (h:R7 (d+1) (.mk k n t ns is)):Z2 ns is w=(a45,false)∨∃ x,Z2 ns is w=(x,true)∧R7 d x:=by
 rcases a83 ns (fun x=>decide (x=w)) with ⟨k1,k2⟩ | ⟨i,hi,k1,k2⟩
 · left;unfold Z2;rw [k1];simp
 · right
   have hx:i < is.length:=by
    rcases a48 h with rfl | ⟨_,h2,_⟩
    · simp at hi
    · omega
   refine ⟨is[i],?_,a61 h _ (List.getElem_mem hx)⟩
   unfold Z2;rw [k1,if_neg (by omega)];simp [hx]
theorem b7x (x:LJson) (h:R7 3 x):i7 Tryz.prog 117 [.val (K6 x)] (.ret (.tup [.val (O2 (pOf x).1),.val (.bool (pOf x).2)]) []) []:=by
 obtain ⟨k,m,t,ns,xs⟩:=x
 have hnm:=a48 h
 have hnl:ns.length≤1048576:=by rcases hnm with rfl | ⟨_,h1,h2⟩;simp;omega
 have hnx:ns=[]∨ns.length=xs.length:=hnm.imp id fun h=>h.2.1
 have hA:=a5m k m t ns xs a8l hnl hnx
 have hB:=a5m k m t ns xs a2m hnl hnx
 have hI:=a5m k m t ns xs wId hnl hnx
 have gB:=b3p a2m h
 have hT:c32 (.mk k m t ns xs)=((Z2 ns xs a8l).2 && ((Z2 ns xs a2m).2 && ((Z2 ns xs wId).2 && (decide (ns.length=3) && (decide ((Z2 ns xs a8l).1.kind=3) && (decide ((Z2 ns xs wId).1.kind=3) && decide ((Z2 ns xs a2m).1.kind=6))))))):=rfl
 have hO:b8v (.mk k m t ns xs)=⟨(Z2 ns xs wId).1.num,(Z2 ns xs a8l).1.num,jtx (Z2 ns xs a2m).1⟩:=rfl
 unfold a9o at hA hB hI
 obtain ⟨Z,hZ⟩:∃ Z,a4o [.c 2 true 3,.t 3] (.tup [.val (O2 (pOf (.mk k m t ns xs)).1),.val (.bool (pOf (.mk k m t ns xs)).2)])=Z:=⟨_,rfl⟩
 unfold pOf b3e at hZ
 rw [hT,hO] at hZ
 refine F9 mixed ok117 rfl (fun _=>rfl) ?_
 unfold pOf b3e
 rw [hT,hO,hZ]
 generalize Z2 ns xs a8l=RA at *
 generalize Z2 ns xs a2m=RB at *
 generalize Z2 ns xs wId=RI at *
 obtain ⟨⟨a1,a2,a3,a4,a5⟩,ab⟩:=RA
 obtain ⟨⟨b1,b2,b3,b4,b5⟩,bb⟩:=RB
 obtain ⟨⟨i1,i2,i3,i4,i5⟩,ib⟩:=RI
 simp only [s7] at hA hB hI
 obtain ⟨T,hTT⟩:∃ T,(ab && (bb && (ib && (decide (ns.length=3) && (decide (a1=3) && (decide (i1=3) && decide (b1=6)))))))=T:=⟨_,rfl⟩
 replace hZ:a4o [.c 2 true 3,.t 3] (.tup [.val (O2 (if T=true then ((⟨i2,a2,jtx (.mk b1 b2 b3 b4 b5)⟩:LParcel),pOK i2 a2 (jtx (.mk b1 b2 b3 b4 b5))) else (⟨0,0,[]⟩,false)).1),.val (.bool (if T=true then ((⟨i2,a2,jtx (.mk b1 b2 b3 b4 b5)⟩:LParcel),pOK i2 a2 (jtx (.mk b1 b2 b3 b4 b5))) else (⟨0,0,[]⟩,false)).2)])=Z:=by rw [← hTT];exact hZ
 unfold ir117
 rw [b8,s7]
 simp [d6,s8,L3,b7,c8,num,tx,s9,a8]
 refine S7 rfl rfl (.inl rfl) hA ?_
 simp [num,tx,a8]
 refine S7 rfl rfl (.inl rfl) hB ?_
 simp [num,tx,a8]
 refine S7 rfl rfl (.inl rfl) hI ?_
 cases ab with
 | false=>
  simp [num,tx,a8]
  obtain rfl:T=false:=by rw [← hTT];simp
  rw [← hZ]
  simp [num,tx,a8,O2,P7,S0,Y6,St.fin,St.freeze,PV.frzL,PV.frz,PV.plL,PV.pl,O7,okId,MObj.pl,O1,s9]
 | true=>
  cases bb with
  | false=>
   simp [num,tx,a8]
   obtain rfl:T=false:=by rw [← hTT];simp
   rw [← hZ]
   simp [num,tx,a8,O2,P7,S0,Y6,St.fin,St.freeze,PV.frzL,PV.frz,PV.plL,PV.pl,O7,okId,MObj.pl,O1,s9]
  | true=>
   cases ib with
   | false=>
    simp [num,tx,a8]
    obtain rfl:T=false:=by rw [← hTT];simp
    rw [← hZ]
    simp [num,tx,a8,O2,P7,S0,Y6,St.fin,St.freeze,PV.frzL,PV.frz,PV.plL,PV.pl,O7,okId,MObj.pl,O1,s9]
   | true=>
    by_cases h4:ns.length=3
    · by_cases h5:a1=3
      · by_cases h6:i1=3
        · by_cases h7:b1=6
          · subst h7
            have hgB:R7 2 (.mk 6 b2 b3 b4 b5):=by
             rcases gB with h | ⟨x,h,hg⟩
             · cases h
             · cases h;exact hg
            have qT:=a7d 2 _ (by omega) hgB
            have qO:=c_l10OK i2 a2 (jtx (.mk 6 b2 b3 b4 b5))
            rw [s7] at qT
            simp [num,tx,a8,h4,h5,h6]
            obtain rfl:T=true:=by rw [← hTT];simp [h4,h5,h6]
            constructor
            all_goals
             refine d7 rfl rfl (.inl rfl) qT ?_
             simp [num,tx,a8]
             refine V7 rfl rfl (.inl rfl) qO ?_
             simp [num,tx,a8]
             rw [← hZ]
             simp [num,tx,a8,O2,P7,S0,Y6,St.fin,St.freeze,PV.frzL,PV.frz,PV.plL,PV.pl,O7,okId,MObj.pl,O1,s9]
          · simp [num,tx,a8,h4,h5,h6,h7]
            obtain rfl:T=false:=by rw [← hTT];simp [h4,h5,h6,h7]
            rw [← hZ]
            simp [num,tx,a8,O2,P7,S0,Y6,St.fin,St.freeze,PV.frzL,PV.frz,PV.plL,PV.pl,O7,okId,MObj.pl,O1,s9]
        · simp [num,tx,a8,h4,h5,h6]
          obtain rfl:T=false:=by rw [← hTT];simp [h4,h5,h6]
          rw [← hZ]
          simp [num,tx,a8,O2,P7,S0,Y6,St.fin,St.freeze,PV.frzL,PV.frz,PV.plL,PV.pl,O7,okId,MObj.pl,O1,s9]
      · simp [num,tx,a8,h4,h5]
        obtain rfl:T=false:=by rw [← hTT];simp [h4,h5]
        rw [← hZ]
        simp [num,tx,a8,O2,P7,S0,Y6,St.fin,St.freeze,PV.frzL,PV.frz,PV.plL,PV.pl,O7,okId,MObj.pl,O1,s9]
    · have h4':¬ (ns.length:Int)=3:=by omega
      simp [num,tx,a8,h4']
      obtain rfl:T=false:=by rw [← hTT];simp [h4]
      rw [← hZ]
      simp [num,tx,a8,O2,P7,S0,Y6,St.fin,St.freeze,PV.frzL,PV.frz,PV.plL,PV.pl,O7,okId,MObj.pl,O1,s9]
def rp (J:LJson×Int):List LParcel×Int:=if J.2≠0 then ([],J.2) else if J.1.kind≠5 then ([],9) else if 3 < J.1.items.length then ([],6) else if J.1.items.all (fun x=>(pOf x).2) then (J.1.items.map fun x=>(pOf x).1,0) else ([],3)
def rpP (t:Tx):PV:=.tup [.val (.list 3 ((rp (R5 t)).1.map O2)),.val (num (rp (R5 t)).2)]
theorem c2y (t:Tx) (ht:t.length≤1048576):i7 Tryz.prog 57 [.val (tx t)] (.ret (rpP t) []) []:=by
 refine F9 mixed ok57 rfl (fun _=>rfl) ?_
 have hr:=b33 t ht
 unfold c1q at hr
 have hg:(R5 t).1.kind=5→R7 4 (R5 t).1:=fun h=>by
  unfold R5 at h ⊢
  cases hj:a6n t with
  | ok x k=>exact a7w hj
  | err c=>rw [hj] at h;simp [LJson.kind] at h
 unfold rpP
 obtain ⟨J,hJ⟩:∃ J,R5 t=J:=⟨_,rfl⟩
 rw [hJ] at hr hg ⊢
 obtain ⟨⟨k,n,tt,ns,is⟩,c⟩:=J
 simp only [LJson.kind,LJson.items] at hr hg
 obtain ⟨R,hR⟩:∃ R,rp (.mk k n tt ns is,c)=R:=⟨_,rfl⟩
 rw [hR]
 obtain ⟨Z,hZ⟩:∃ Z,a4o [.t 2,.t 3] (.tup [.val (.list 3 (R.1.map O2)),.val (num R.2)])=Z:=⟨_,rfl⟩
 rw [hZ]
 rw [s7] at hr
 unfold ir57
 rw [b8]
 simp [d6,s8,L3,b7,c8,num,tx,s9]
 refine S7 rfl rfl (.inl rfl) hr ?_
 simp [num,tx]
 by_cases h0:c=0
 · by_cases h5:k=5
   · by_cases h3:3 < is.length
     · have h3':(3:Int) < (is.length:Int):=by omega
       obtain rfl:R=([],6):=by rw [← hR];simp [rp,h0,h5,h3,LJson.kind,LJson.items]
       simp [num,tx,h0,h5,h3,h3']
       rw [← hZ]
       simp [num,O7,PV.pl]
     · have h3':¬ (3:Int) < (is.length:Int):=by omega
       have hgd:=a61 (hg h5)
       have hRR:R=if is.all (fun x=>(pOf x).2)=true then (is.map fun x=>(pOf x).1,(0:Int)) else ([],3):=by rw [← hR];simp [rp,h0,h5,h3,LJson.kind,LJson.items]
       simp [num,tx,h0,h5,h3,h3']
       refine P5 (X:=Nat) (fun i=>⟨P9 [(4,.ptr 4 0),(6,.own 28),(7,.val (num (i:Int)))],Q1 [(4,.box [.val (num 5),.val (num n),.val (tx tt),.val (.list 1 (ns.map tx)),.val (.list 5 (is.map K6))]),(28,.row 94 3 ((is.take i).map fun x=>O2 (pOf x).1))]⟩)
        (fun i=>i≤is.length∧∀ j (h:j < is.length),j < i→(pOf is[j]).2=true) (fun i=>is.length - i) 0 (Le.mk _ _ ?_ ?_) ⟨Nat.zero_le _,fun j _ h=>absurd h (Nat.not_lt_zero _)⟩ ?_
       · simp [num,tx,PV.kill]
       · simp [num,tx,MObj.kill,PV.kill,PV.killL,s9]
       · rintro i ⟨hi,hall⟩
         have wi:IntKind.i64.wrap ((i:Int)+1)=((i+1:Nat):Int):=by rw [wrap_i64 (by omega) (by omega)];omega
         by_cases h1:i < is.length
         · have hC:=b7x is[i] (hgd _ (List.getElem_mem h1))
           obtain ⟨y,hy⟩:∃ y,is[i]=y:=⟨_,rfl⟩
           obtain ⟨⟨q,b⟩,hq⟩:∃ q,pOf is[i]=q:=⟨_,rfl⟩
           have hst:(is.take (i+1)).map (fun x=>O2 (pOf x).1)=(is.take i).map (fun x=>O2 (pOf x).1)++[O2 q]:=by
            rw [List.take_add_one,List.getElem?_eq_getElem h1,List.map_append]
            simp [hq]
           rw [hq,hy] at hC
           obtain ⟨a1,a2,a3,a4,a5⟩:=y
           rw [s7] at hC
           unfold O2 at hC
           simp [num,tx,h1,hy,s7]
           refine S7 rfl rfl (.inl rfl) hC ?_
           cases b with
           | true=>
            simp [num,tx,h1,hy,elems,a8,RV.one,G5]
            refine ⟨by omega,by omega,?_⟩
            refine LoopNext.mk (i+1) ⟨h1,fun j hj hji=>?_⟩ (by omega) (Le.mk _ _ ?_ ?_)
            · by_cases e:j=i
              · subst e;rw [hq]
              · exact hall j hj (by omega)
            · simp [num,wi,tx]
            · rw [hst];simp [num,tx,O2]
           | false=>
            simp [num,tx,h1,hy]
            have hf:is.all (fun x=>(pOf x).2)=false:=by
             rw [Bool.eq_false_iff];intro ha
             have:=List.all_eq_true.1 ha is[i] (List.getElem_mem h1)
             rw [hq] at this;cases this
            rw [← hZ,hRR,hf]
            simp [num,tx,O7,PV.pl]
         · have ht:is.all (fun x=>(pOf x).2)=true:=by
            rw [List.all_eq_true]
            intro x hx
            obtain ⟨j,hj,rfl⟩:=List.mem_iff_getElem.1 hx
            exact hall j hj (by omega)
           have e:i=is.length:=by omega
           subst e
           simp [num,tx]
           rw [← hZ,hRR,ht]
           simp [num,tx,O7,PV.pl,Function.comp_def]
   · obtain rfl:R=([],9):=by rw [← hR];simp [rp,h0,h5,LJson.kind,LJson.items]
     simp [num,tx,h0,h5]
     rw [← hZ]
     simp [num,O7,PV.pl]
 · obtain rfl:R=([],c):=by rw [← hR];simp [rp,h0]
   simp [num,tx,h0]
   rw [← hZ]
   simp [num,O7,PV.pl]
end Go.Proofs
end
section
namespace Go.Proofs
open Go.PW Go.KP
attribute [local simp] RV.cells RV.one PV.cells PV.solid PV.one G5 a8 O1 O3 RV.ofCells elems PV.killL
variable [GH]
def rpR (t:Tx):List LParcel:=(rp (a4y t)).1
def rpC (t:Tx):Int:=(rp (a4y t)).2
theorem b69:i7 Tryz.prog 60 [.val (K6 a45)] (.ret (.val (tx jnull)) []) []:=by
 refine F9 mixed ok60 rfl (fun _=>rfl) ?_
 unfold ir60 a45
 rw [b8,s7]
 simp [d6,s8,L3,b7,c8,tx,num,jnull,s9]
theorem b2w (t:Tx):i7 Tryz.prog 12 [.val (tx t)] (.ret (.tup [.own 0,.val (num (rpC t))]) [⟨94,3,(rpR t).map O2⟩]) []:=by
 have hr:=b9j t
 have hg:(a4y t).1.kind=5→R7 4 (a4y t).1:=fun h=>by
  unfold a4y at h ⊢
  split at h
  · rename_i h0
    rw [if_pos h0]
    unfold R5 at h ⊢
    cases hj:a6n t with
    | ok x k=>exact a7w hj
    | err c=>rw [hj] at h;simp [LJson.kind] at h
  · simp [LJson.kind] at h
 unfold b8j at hr
 unfold rpR rpC
 obtain ⟨J,hJ⟩:∃ J,a4y t=J:=⟨_,rfl⟩
 rw [hJ] at hr hg ⊢
 obtain ⟨⟨k,n,tt,ns,is⟩,c⟩:=J
 simp only [LJson.kind,LJson.items] at hr hg
 obtain ⟨R,hR⟩:∃ R,rp (.mk k n tt ns is,c)=R:=⟨_,rfl⟩
 rw [hR]
 refine a8b (mk:=fun i=>.tup [.own i,.val (num R.2)]) mixed ok12 rfl (fun _=>rfl) ?_
 obtain ⟨Z,hZ⟩:∃ Z,c55 [.t 2,.t 3] (fun i=>.tup [.own i,.val (num R.2)]) 94 3 (R.1.map O2)=Z:=⟨_,rfl⟩
 rw [hZ]
 rw [s7] at hr
 unfold ir12
 rw [b8]
 simp [d6,s8,L3,b7,c8,num,tx,s9]
 refine S7 rfl rfl (.inl rfl) hr ?_
 simp [num,tx]
 by_cases h0:c=0
 · by_cases h5:k=5
   · by_cases h3:3 < is.length
     · have h3':(3:Int) < (is.length:Int):=by omega
       obtain rfl:R=([],6):=by rw [← hR];simp [rp,h0,h5,h3,LJson.kind,LJson.items]
       simp [num,tx,h0,h5,h3,h3']
       rw [← hZ]
       simp [num]
       exact V9 3 600 (by omega) (.inl (by omega)) (by omega) (by simp) (by simp)
     · have h3':¬ (3:Int) < (is.length:Int):=by omega
       have hgd:=a61 (hg h5)
       have hRR:R=if is.all (fun x=>(pOf x).2)=true then (is.map fun x=>(pOf x).1,(0:Int)) else ([],3):=by rw [← hR];simp [rp,h0,h5,h3,LJson.kind,LJson.items]
       simp [num,tx,h0,h5,h3,h3']
       refine P5 (X:=Nat) (fun i=>⟨P9 [(6,.own 34),(36,.val (.list 5 (is.map K6))),(37,.val (num is.length)),(38,.val (num (i:Int)))],Q1 [(34,.row 94 3 ((is.take i).map fun x=>O2 (pOf x).1))]⟩)
        (fun i=>i≤is.length∧∀ j (h:j < is.length),j < i→(pOf is[j]).2=true) (fun i=>is.length - i) 0 (Le.mk _ _ ?_ ?_) ⟨Nat.zero_le _,fun j _ h=>absurd h (Nat.not_lt_zero _)⟩ ?_
       · simp [num,tx,PV.kill]
       · simp [num,tx,MObj.kill,PV.kill,PV.killL,s9]
       · rintro i ⟨hi,hall⟩
         have wi:IntKind.i64.wrap ((i:Int)+1)=((i+1:Nat):Int):=by rw [wrap_i64 (by omega) (by omega)];omega
         by_cases h1:i < is.length
         · obtain ⟨y,hy⟩:∃ y,is[i]=y:=⟨_,rfl⟩
           have hgy:R7 3 y:=by rw [← hy];exact hgd _ (List.getElem_mem h1)
           have hf:(pOf y).2=false→is.all (fun x=>(pOf x).2)=false:=fun hp=>by
            rw [Bool.eq_false_iff];intro ha
            have:=List.all_eq_true.1 ha is[i] (List.getElem_mem h1)
            rw [hy,hp] at this;cases this
           have hst:(is.take (i+1)).map (fun x=>O2 (pOf x).1)=(is.take i).map (fun x=>O2 (pOf x).1)++[O2 (pOf y).1]:=by
            rw [List.take_add_one,List.getElem?_eq_getElem h1,List.map_append]
            simp [hy]
           have hyy:(pOf is[i]).2=(pOf y).2:=by rw [hy]
           obtain ⟨y1,y2,y3,y4,y5⟩:=y
           have hnm:=a48 hgy
           have hnl:y4.length < 1099511627776:=by rcases hnm with rfl | ⟨_,h1,h2⟩;simp;omega
           have hnx:∀ (w:Tx) (i:Nat),a2r y4 (fun x=>decide (x=w))=i→i < y5.length:=fun w i hi=>by
            rcases a83 y4 (fun x=>decide (x=w)) with ⟨k1,k2⟩ | ⟨q,hq,k1,k2⟩
            · omega
            · rcases hnm with rfl | ⟨_,h1,h2⟩
              · simp at hq
              · omega
           have hA:=b1o y1 y2 y3 y4 y5 a8l hnl (hnx _)
           have hB:=b1o y1 y2 y3 y4 y5 a2m hnl (hnx _)
           have hI:=b1o y1 y2 y3 y4 y5 wId hnl (hnx _)
           have gB:=b3p a2m hgy
           have hT:c32 (.mk y1 y2 y3 y4 y5)=((Z2 y4 y5 a8l).2 && ((Z2 y4 y5 a2m).2 && ((Z2 y4 y5 wId).2 && (decide (y4.length=3) && (decide ((Z2 y4 y5 a8l).1.kind=3) && (decide ((Z2 y4 y5 wId).1.kind=3) && decide ((Z2 y4 y5 a2m).1.kind=6))))))):=rfl
           have hO:b8v (.mk y1 y2 y3 y4 y5)=⟨(Z2 y4 y5 wId).1.num,(Z2 y4 y5 a8l).1.num,jtx (Z2 y4 y5 a2m).1⟩:=rfl
           have h63:y1=6→(y5.length=3↔y4.length=3):=fun h=>by
            unfold R7 at hgy
            rcases hgy with ⟨e,_⟩ | ⟨e,_⟩ | ⟨e,_⟩ | ⟨e,_⟩ | ⟨_,_,_,⟨e,_⟩ | ⟨_,e,_⟩,_⟩<;>omega
           have h43:y4.length=3→y1=6:=fun h=>by
            rcases hnm with rfl | ⟨e,_⟩
            · simp at h
            · exact e
           have hpf:(pOf (.mk y1 y2 y3 y4 y5))=if c32 (.mk y1 y2 y3 y4 y5) then (b8v (.mk y1 y2 y3 y4 y5),b3e (.mk y1 y2 y3 y4 y5)) else (⟨0,0,[]⟩,false):=rfl
           unfold b3e at hpf
           rw [hT,hO] at hpf
           unfold a9o at hA hB hI
           generalize pOf (.mk y1 y2 y3 y4 y5)=PQ at *
           generalize Z2 y4 y5 a8l=RA at *
           generalize Z2 y4 y5 a2m=RB at *
           generalize Z2 y4 y5 wId=RI at *
           obtain ⟨⟨a1,a2,a3,a4,a5⟩,ab⟩:=RA
           obtain ⟨⟨b1,b2,b3,b4,b5⟩,bb⟩:=RB
           obtain ⟨⟨i1,i2,i3,i4,i5⟩,ib⟩:=RI
           obtain ⟨bt,hbt,hbt6⟩:∃ bt,i7 Tryz.prog 60 [.val (K6 (.mk b1 b2 b3 b4 b5))] (.ret (.val (tx bt)) []) []∧(b1=6→bt=jtx (.mk b1 b2 b3 b4 b5)):=by
            rcases gB with h | ⟨x,h,hgx⟩
            · cases h;exact ⟨jnull,b69,fun h=>by cases h⟩
            · cases h;exact ⟨_,b9i 2 _ (by omega) hgx,fun _=>rfl⟩
           simp only [s7] at hA hB hI hbt
           obtain ⟨T,hTT⟩:∃ T,(ab && (bb && (ib && (decide (y4.length=3) && (decide (a1=3) && (decide (i1=3) && decide (b1=6)))))))=T:=⟨_,rfl⟩
           replace hpf:PQ=if T=true then ((⟨i2,a2,jtx (.mk b1 b2 b3 b4 b5)⟩:LParcel),pOK i2 a2 (jtx (.mk b1 b2 b3 b4 b5))) else (⟨0,0,[]⟩,false):=by rw [← hTT];exact hpf
           have hf0:=hf
           replace hf:T=false→is.all (fun x=>(pOf x).2)=false:=fun h=>hf (by rw [hpf,h];rfl)
           simp [num,tx,h1,hy,s7]
           refine S7 rfl rfl (.inl rfl) hA ?_
           simp [num,tx,a8]
           refine S7 rfl rfl (.inl rfl) hB ?_
           simp [num,tx,a8]
           refine S7 rfl rfl (.inl rfl) hI ?_
           simp [num,tx,a8]
           constructor
           all_goals
            refine d7 rfl rfl (.inl rfl) hbt ?_
            by_cases c1:y1=6
            · by_cases c2:y5.length=3
              · cases ab with
                | false=>
                 simp [num,tx,a8,c1,c2]
                 rw [← hZ,hRR,hf (by rw [← hTT];simp [c1,c2])]
                 simp [num]
                 exact V9 3 600 (by omega) (.inl (by omega)) (by omega) (by simp) (by simp)
                | true=>
                 cases bb with
                 | false=>
                  simp [num,tx,a8,c1,c2]
                  rw [← hZ,hRR,hf (by rw [← hTT];simp [c1,c2])]
                  simp [num]
                  exact V9 3 600 (by omega) (.inl (by omega)) (by omega) (by simp) (by simp)
                 | true=>
                  cases ib with
                  | false=>
                   simp [num,tx,a8,c1,c2]
                   rw [← hZ,hRR,hf (by rw [← hTT];simp [c1,c2])]
                   simp [num]
                   exact V9 3 600 (by omega) (.inl (by omega)) (by omega) (by simp) (by simp)
                  | true=>
                   by_cases c5:a1=3
                   · by_cases c6:i1=3
                     · by_cases c7:b1=6
                       · have hbt:bt=jtx (.mk b1 b2 b3 b4 b5):=hbt6 c7
                         have qO:=b9k i2 a2 bt
                         simp [num,tx,a8,c1,c2,c5,c6,c7]
                         refine d7 rfl rfl (.inl rfl) qO ?_
                         have hT1:T=true:=by rw [← hTT];simp [(h63 c1).1 c2,c5,c6,c7]
                         rw [hT1,if_pos rfl] at hpf
                         subst hpf
                         rw [← hbt] at *
                         cases hp:pOK i2 a2 bt with
                         | true=>
                          simp [num,tx,a8,elems,RV.one,G5]
                          refine ⟨by omega,by omega,?_⟩
                          refine LoopNext.mk (i+1) ⟨h1,fun j hj hji=>?_⟩ (by omega) (Le.mk _ _ ?_ ?_)
                          · by_cases e:j=i
                            · subst e;rw [hyy];exact hp
                            · exact hall j hj (by omega)
                          · simp [num,wi,tx]
                          · rw [hst];simp [num,tx,O2]
                         | false=>
                          simp [num,tx,a8]
                          rw [← hZ,hRR,hf0 hp]
                          simp [num]
                          exact V9 3 600 (by omega) (.inl (by omega)) (by omega) (by simp) (by simp)
                       · skip
                         simp [num,tx,a8,c1,c2,c5,c6,c7]
                         rw [← hZ,hRR,hf (by rw [← hTT];simp [c1,c2,c5,c6,c7])]
                         simp [num]
                         exact V9 3 600 (by omega) (.inl (by omega)) (by omega) (by simp) (by simp)
                     · skip
                       simp [num,tx,a8,c1,c2,c5,c6]
                       rw [← hZ,hRR,hf (by rw [← hTT];simp [c1,c2,c5,c6])]
                       simp [num]
                       exact V9 3 600 (by omega) (.inl (by omega)) (by omega) (by simp) (by simp)
                   · skip
                     simp [num,tx,a8,c1,c2,c5]
                     rw [← hZ,hRR,hf (by rw [← hTT];simp [c1,c2,c5])]
                     simp [num]
                     exact V9 3 600 (by omega) (.inl (by omega)) (by omega) (by simp) (by simp)
              · skip
                have c2':¬ (y5.length:Int)=3:=by omega
                simp [num,tx,a8,c1,c2,c2']
                rw [← hZ,hRR,hf (by rw [← hTT];simp [show ¬ y4.length=3 from fun h=>c2 ((h63 c1).2 h)])]
                simp [num]
                exact V9 3 600 (by omega) (.inl (by omega)) (by omega) (by simp) (by simp)
            · skip
              simp [num,tx,a8,c1]
              rw [← hZ,hRR,hf (by rw [← hTT];simp [show ¬ y4.length=3 from fun h=>c1 (h43 h)])]
              simp [num]
              exact V9 3 600 (by omega) (.inl (by omega)) (by omega) (by simp) (by simp)
         · have ht:is.all (fun x=>(pOf x).2)=true:=by
            rw [List.all_eq_true]
            intro x hx
            obtain ⟨j,hj,rfl⟩:=List.mem_iff_getElem.1 hx
            exact hall j hj (by omega)
           have e:i=is.length:=by omega
           subst e
           simp [num,tx]
           rw [← hZ,hRR,ht]
           simp [num]
           exact b6c 34 (by simp) (by simp) (by simp [Function.comp_def])
   · obtain rfl:R=([],9):=by rw [← hR];simp [rp,h0,h5,LJson.kind,LJson.items]
     simp [num,tx,h0,h5]
     rw [← hZ]
     simp [num]
     exact V9 3 600 (by omega) (.inl (by omega)) (by omega) (by simp) (by simp)
 · obtain rfl:R=([],c):=by rw [← hR];simp [rp,h0]
   simp [num,tx,h0]
   rw [← hZ]
   simp [num]
   exact V9 3 600 (by omega) (.inl (by omega)) (by omega) (by simp) (by simp)
end Go.Proofs
end
