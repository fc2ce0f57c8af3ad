/- Fo: merged out of KXan, KXao, KJi, KXap, KJl, KXaq, KXar, KXas, KXat, KXau, KXav. -/
import Derived.Test.YtfoapolbgpjfaaaGreatDoorFn
import Derived.Test.YtfoapolbgpjfaaaGreatDoorEa
import Derived.Test.YtfoapolbgpjfaaaGreatDoorBa
import Derived.Test.YtfoapolbgpjfaaaGreatDoorCa
import Derived.Test.YtfoapolbgpjfaaaGreatDoorAc
import Derived.Test.YtfoapolbgpjfaaaGreatDoorShelf
import Derived.Shelf.Strings.OnBuilder
import Derived.Test.YtfoapolbgpjfaaaGreatDoorFl
import Derived.Test.YtfoapolbgpjfaaaGreatDoorPWag
set_option linter.unusedSectionVars false
set_option linter.unusedSimpArgs false
set_option linter.unusedVariables false
set_option maxRecDepth 100000
section
namespace Go.Proofs
open Go.PW Go.KP
attribute [local simp] RV.cells RV.one PV.cells PV.solid PV.one F7 a6 N5 N7 RV.ofCells elems PV.killL
variable [GH]
def a43:LJson:=.mk 0 0 [] [] []
def Y4 (ns:List Tx) (xs:List LJson) (n:Tx):LJson×Bool:=if a2o ns (fun x=>decide (x=n)) < 0 then (a43,false) else (xs.getD (a2o ns fun x=>decide (x=n)).toNat a43,true)
def a9l (ns:List Tx) (xs:List LJson) (n:Tx):PV:=.tup [.val (J9 (Y4 ns xs n).1),.val (.bool (Y4 ns xs n).2)]
theorem b1l (k m:Int) (t:Tx) (ns:List Tx) (xs:List LJson) (n:Tx) (hl:ns.length < 1099511627776) (hx:∀ i:Nat,a2o ns (fun x=>decide (x=n))=i→i < xs.length):f9 Tryz.prog 59 [.val (J9 (.mk k m t ns xs)),.val (tx n)] (.ret (a9l ns xs n) []) []:=by
 refine F4 mixed ok59 rfl (fun _=>rfl) ?_
 have hI:=a9p ns n hl
 rw [p7]
 unfold ir59 a9l Y4
 obtain ⟨z,hz⟩:∃ z,a2o ns (fun x=>decide (x=n))=z:=⟨_,rfl⟩
 rw [hz] at hI hx ⊢
 rw [a8]
 simp [b9,p6,K4,a7,b8,num,tx,p8,a6]
 refine d4 (by simp [P5,avOf,tx]) rfl (.inl rfl) hI ?_
 by_cases h:z < 0
 · simp [num,tx,h,P2,R6,X5,St.fin,St.freeze,PV.frzL,PV.frz,PV.plL,PV.pl,O1,okId,MObj.pl,a6,N5,J9,Z6,p8,a43]
 · obtain ⟨i,rfl⟩:∃ i:Nat,z=i:=⟨z.toNat,by omega⟩
   have hi:=hx i rfl
   obtain ⟨y,hy⟩:∃ y,xs.getD i a43=y:=⟨_,rfl⟩
   have hy2:xs[i]=y:=by rw [← hy];simp [hi]
   obtain ⟨a1,a2,a3,a4,a5⟩:=y
   simp [num,tx,h,hi,hy2,p7,P2,R6,X5,St.fin,St.freeze,PV.frzL,PV.frz,PV.plL,PV.pl,O1,okId,MObj.pl,a6,N5,p8]
theorem c4y {ns:List Tx} {xs:List LJson} {n:Tx} {i:Nat} (hi:i < ns.length) (h1:ns[i]=n) (h:∀ j (hj:j < i),ns[j]'(by omega)≠n):Y4 ns xs n=(xs.getD i a43,true):=by
 unfold Y4
 rw [a2n hi (by simp [h1]) (fun k hk=>by simpa using h k hk),if_neg (by omega)]
 rfl
theorem c2n {ns:List Tx} {xs:List LJson} {n:Tx} (h:∀ j (hj:j < ns.length),ns[j]≠n):Y4 ns xs n=(a43,false):=by
 unfold Y4
 rw [a3s (fun k hk=>by simpa using h k hk),if_pos (by omega)]
theorem a5m (k m:Int) (t:Tx) (ns:List Tx) (xs:List LJson) (n:Tx) (hl:ns.length≤1048576) (hx:ns=[]∨ns.length=xs.length):f9 Tryz.prog 160 [.val (J9 (.mk k m t ns xs)),.val (tx n)] (.ret (a9l ns xs n) []) []:=by
 refine F4 mixed ok160 rfl (fun _=>rfl) ?_
 rw [p7]
 obtain ⟨R,hR⟩:∃ R,Y4 ns xs n=R:=⟨_,rfl⟩
 obtain ⟨Z,hZ⟩:∃ Z,a4s [.c 4 true 5,.t 5] (a9l ns xs n)=Z:=⟨_,rfl⟩
 rw [hZ]
 unfold ir160
 rw [a8]
 simp [b9,p6,K4,a7,b8,num,tx,p8,a6]
 refine P0 (X:=Nat) (fun i=>⟨Q0 [(1,.val (tx n)),(2,.ptr 2 0),(4,.ptr 4 0),(6,.val (num (i:Int)))],P6 [(2,.box [.val (num k),.val (num m),.val (tx t),.val (.list 1 (ns.map tx)),.val (.list 5 (xs.map J9))]),(4,.box [.val (num 0),.val (num 0),.val (tx []),.emp 1,.emp 5])]⟩)
  (fun i=>i≤ns.length∧∀ j (h:j < ns.length),j < i→ns[j]≠n) (fun i=>ns.length - i) 0 (Le.mk _ _ ?_ ?_) ⟨Nat.zero_le _,fun j _ h=>absurd h (Nat.not_lt_zero _)⟩ ?_
 · simp [num,tx,PV.kill]
 · simp [num,tx,MObj.kill,PV.kill,PV.killL,p8]
 · rintro i ⟨hi,hno⟩
   have wi:IntKind.i64.wrap ((i:Int)+1)=((i+1:Nat):Int):=by rw [wrap_i64 (by omega) (by omega)];omega
   by_cases h1:i < ns.length
   · have h2:i < xs.length:=by rcases hx with h | h;subst h;simp at h1;omega
     obtain ⟨y,hy⟩:∃ y,xs[i]=y:=⟨_,rfl⟩
     obtain ⟨a1,a2,a3,a4,a5⟩:=y
     obtain ⟨u,hu⟩:∃ u,ns[i]=u:=⟨_,rfl⟩
     by_cases h3:u=n
     · have hj:=c4y (xs:=xs) h1 (hu.trans h3) (fun j hj=>hno j (by omega) hj)
       have hg:xs.getD i a43=.mk a1 a2 a3 a4 a5:=by simp [h2,hy]
       rw [hg] at hj
       subst h3
       simp [num,tx,h1,h2,hy,hu,p7,Q8]
       rw [← hZ]
       unfold a9l
       rw [hj]
       simp [num,tx,p7,P2,R6,X5,St.fin,St.freeze,PV.frzL,PV.frz,PV.plL,PV.pl,O1,okId,MObj.pl,a6,N5,p8]
     · simp [num,tx,h1,h2,hy,hu,h3,p7,Q8]
       refine LoopNext.mk (i+1) ⟨h1,fun j hj hji=>?_⟩ (by omega) (Le.mk _ _ ?_ ?_)
       · by_cases e:j=i
         · subst e;rw [hu];exact h3
         · exact hno j hj (by omega)
       · simp [num,wi,tx]
       · simp [num,tx]
   · have hj:=c2n (ns:=ns) (xs:=xs) (n:=n) (fun j hj=>hno j hj (by omega))
     simp [num,tx,h1]
     rw [← hZ]
     unfold a9l
     rw [hj]
     simp [num,tx,J9,Z6,a43,P2,R6,X5,St.fin,St.freeze,PV.frzL,PV.frz,PV.plL,PV.pl,O1,okId,MObj.pl,a6,N5,p8]
end Go.Proofs
end
section
namespace Go.Proofs
open Go.PW Go.KP
variable [GF]
theorem b5g (n:Int) (h0:-1000000000000≤n) (h1:n≤9223372036854775807):f9 Tryz.prog 223 [.val (num n)] (.ret (.val (tx (a2p n))) []) []:=by
 by_cases hn:n < 0
 · obtain ⟨m,rfl⟩:∃ m:Nat,n=-(m:Int):=⟨(-n).toNat,by omega⟩
   have hc:=a4o m (by omega)
   have hw:IntKind.i64.wrap (m:Int)=(m:Int):=wrap_i64 (by omega) (by omega)
   have hm:¬ -(m:Int)=-9223372036854775808:=by omega
   have hl:=b6s m
   have he:a2p (-(m:Int))=45 :: a0p m:=by
    unfold a2p
    rw [if_pos hn]
    simp
   rw [he]
   have hn':0 < m:=by omega
   refine F4 mixed ok223 rfl (fun _=>rfl) ?_
   unfold ir223
   rw [a8]
   have hm2:¬ (m:Int)=9223372036854775808:=by omega
   simp [b9,p6,K4,a7,b8,num,hm,hm2,hn,hn',hw]
   refine d4 rfl rfl (.inl rfl) hc ?_
   simp [b9,p6,K4,a7,b8,num,tx,p8,b7,S6]
   omega
 · obtain ⟨m,rfl⟩:∃ m:Nat,n=m:=⟨n.toNat,by omega⟩
   have:=a4o m (by omega)
   rw [show a2p (m:Int)=a0p m by unfold a2p;rw [if_neg (by omega)];rfl]
   exact this
end Go.Proofs
end
section
namespace Go.Proofs
open Go.PW Go.KP
attribute [local simp] RV.cells RV.one PV.cells PV.solid PV.one F7 a6 N5 N7 RV.ofCells elems PV.killL
section
variable [GF]
theorem b14 (t:Tx) (ht:t.length≤1048576):f9 Tryz.prog 224 [.val (tx t)] (.ret (.val (tx (a00 t))) []) []:=by
 refine F4 mixed ok224 rfl (fun _=>rfl) ?_
 unfold ir224
 rw [a8]
 simp [b9,p6,K4,a7,b8,tx,num]
 refine P0 (X:=Nat) (fun i=>⟨Q0 [(0,.val (tx t)),(3,.val (tx (34 :: a08 (t.take i)))),(4,.val (num i))],P6 []⟩) (fun i=>i≤t.length) (fun i=>t.length - i) 0 (Le.mk _ _ ?_ ?_) ?_ ?_
 · simp [upd,tx,num,a08,p8]
 · simp
 · simp
 · intro i hi
   simp [num,tx,b7]
   refine P4 (fun h1=>?_) (fun h1=>?_)
   · have hq:=a3q (t.take i)
     have hti:(t.take i).length=i:=by simp;omega
     have hsucc:=b0t t i h1
     obtain ⟨c,hc⟩:∃ c,t[i]=c:=⟨_,rfl⟩
     rw [hc] at hsucc
     have e1:((c.toNat:Int)=34)↔c.toNat=34:=by omega
     have e2:((c.toNat:Int)=92)↔c.toNat=92:=by omega
     have e3:((c.toNat:Int) < 32)↔c.toNat < 32:=by omega
     have e4:((126:Int) < c.toNat)↔126 < c.toNat:=by omega
     have wi:IntKind.i64.wrap ((i:Int)+1)=((i+1:Nat):Int):=by rw [wrap_i64 (by omega) (by omega)];omega
     have fin:∀ st':St,st'.env 0=.val (tx t)→st'.env 3=.val (tx (34 :: (a08 (t.take i)++qb c)))→st'.env 4=.val (num ((i+1:Nat):Int))→∃ x',x'≤t.length∧t.length - x' < t.length - i∧Le st' ⟨Q0 [(0,.val (tx t)),(3,.val (tx (34 :: a08 (t.take x')))),(4,.val (num x'))],P6 []⟩:=fun st' q0 q3 q4=>by
      refine ⟨i+1,h1,by omega,Le.mk _ _ ?_ ?_⟩
      · simp [q0,q3,q4,hsucc]
      · simp
     have h256:c.toNat < 256:=c.toNat_lt
     have hr:(t.drop i).take 1=[c]:=by rw [← hc,List.drop_eq_getElem_cons h1];rfl
     have hr2:(t.take (i+1)).drop i=[c]:=by rw [List.drop_take,show i+1 - i=1 by omega,hr]
     have wi2:IntKind.i64.wrap ((i:Int)+1)=(i:Int)+1:=wrap_i64 (by omega) (by omega)
     have fin':∀ st':St,st'.env 0=.val (tx t)→st'.env 3=.val (tx (34 :: (a08 (t.take i)++qb c)))→st'.env 4=.val (num ((i:Int)+1))→∃ x',x'≤t.length∧t.length - x' < t.length - i∧Le st' ⟨Q0 [(0,.val (tx t)),(3,.val (tx (34 :: a08 (t.take x')))),(4,.val (num x'))],P6 []⟩:=fun st' q0 q3 q4=>fin st' q0 q3 (by rw [q4];rfl)
     by_cases h34:c.toNat=34
     · simp [num,tx,b7,O0,T7,S6,p8,hti,h1,hc,e1,e2,e3,e4,h34,wi2,hr2]
       refine ⟨by omega,by omega,fin' _ ?_ ?_ ?_⟩
       · simp [num,tx]
       · simp [num,tx,qb,h34]
       · simp [num,tx]
     by_cases h92:c.toNat=92
     · simp [num,tx,b7,O0,T7,S6,p8,hti,h1,hc,e1,e2,e3,e4,h92,wi2,hr2]
       refine ⟨by omega,by omega,fin' _ ?_ ?_ ?_⟩
       · simp [num,tx]
       · simp [num,tx,qb,h92]
       · simp [num,tx]
     by_cases h32:c.toNat < 32
     · have hqb:qb c=[92,117,48,48,hexs.getD (c.toNat / 16) 0,hexs.getD (c.toNat % 16) 0]:=by unfold qb;rw [if_neg (by omega),if_neg (by omega)]
       have w1:IntKind.u8.wrap ((c.toNat:Int) / 16)=((c.toNat / 16:Nat):Int):=by rw [a0j (by omega) (by omega)];omega
       have w2:((c.toNat:Int)).tmod 16=((c.toNat % 16:Nat):Int):=by rw [Int.tmod_eq_emod_of_nonneg (by omega)];omega
       generalize ha:hexs.getD (c.toNat / 16) 0=a at hqb
       generalize hb:hexs.getD (c.toNat % 16) 0=b at hqb
       have f1:([48,49,50,51,52,53,54,55,56,57,97,98,99,100,101,102]:List UInt8)[c.toNat / 16]?.getD 0=a:=by rw [← ha,List.getD_eq_getElem?_getD];rfl
       have f2:([48,49,50,51,52,53,54,55,56,57,97,98,99,100,101,102]:List UInt8)[c.toNat % 16]?.getD 0=b:=by rw [← hb,List.getD_eq_getElem?_getD];rfl
       generalize hn1:c.toNat / 16=n1 at w1 f1 ha
       generalize hn2:c.toNat % 16=n2 at w2 f2 hb
       have g1:n1 < 16:=by omega
       have g2:n2 < 16:=by omega
       have f3:([48,49,50,51,52,53,54,55,56,57,97,98,99,100,101,102]:List UInt8)[n1]'g1=a:=by rw [← f1,List.getElem?_eq_getElem g1];rfl
       have f4:([48,49,50,51,52,53,54,55,56,57,97,98,99,100,101,102]:List UInt8)[n2]'g2=b:=by rw [← f2,List.getElem?_eq_getElem g2];rfl
       simp [num,tx,b7,O0,T7,S6,p8,hti,h1,hc,e1,e2,e3,e4,h34,h92,h32,wi2,hr2,w1,w2,f3,f4,g1,g2,RV.isU8,V2,RV.byte]
       refine ⟨?_,?_,?_,fin' _ ?_ ?_ ?_⟩
       · omega
       · omega
       · omega
       · simp [num,tx]
       · simp [num,tx,hqb]
       · simp [num,tx]
     by_cases h126:126 < c.toNat
     · have hqb:qb c=[92,117,48,48,hexs.getD (c.toNat / 16) 0,hexs.getD (c.toNat % 16) 0]:=by unfold qb;rw [if_neg (by omega),if_neg (by omega)]
       have w1:IntKind.u8.wrap ((c.toNat:Int) / 16)=((c.toNat / 16:Nat):Int):=by rw [a0j (by omega) (by omega)];omega
       have w2:((c.toNat:Int)).tmod 16=((c.toNat % 16:Nat):Int):=by rw [Int.tmod_eq_emod_of_nonneg (by omega)];omega
       generalize ha:hexs.getD (c.toNat / 16) 0=a at hqb
       generalize hb:hexs.getD (c.toNat % 16) 0=b at hqb
       have f1:([48,49,50,51,52,53,54,55,56,57,97,98,99,100,101,102]:List UInt8)[c.toNat / 16]?.getD 0=a:=by rw [← ha,List.getD_eq_getElem?_getD];rfl
       have f2:([48,49,50,51,52,53,54,55,56,57,97,98,99,100,101,102]:List UInt8)[c.toNat % 16]?.getD 0=b:=by rw [← hb,List.getD_eq_getElem?_getD];rfl
       generalize hn1:c.toNat / 16=n1 at w1 f1 ha
       generalize hn2:c.toNat % 16=n2 at w2 f2 hb
       have g1:n1 < 16:=by omega
       have g2:n2 < 16:=by omega
       have f3:([48,49,50,51,52,53,54,55,56,57,97,98,99,100,101,102]:List UInt8)[n1]'g1=a:=by rw [← f1,List.getElem?_eq_getElem g1];rfl
       have f4:([48,49,50,51,52,53,54,55,56,57,97,98,99,100,101,102]:List UInt8)[n2]'g2=b:=by rw [← f2,List.getElem?_eq_getElem g2];rfl
       simp [num,tx,b7,O0,T7,S6,p8,hti,h1,hc,e1,e2,e3,e4,h34,h92,h32,h126,wi2,hr2,w1,w2,f3,f4,g1,g2,RV.isU8,V2,RV.byte]
       refine ⟨?_,?_,?_,fin' _ ?_ ?_ ?_⟩
       · omega
       · omega
       · omega
       · simp [num,tx]
       · simp [num,tx,hqb]
       · simp [num,tx]
     · have h32':32≤c.toNat:=by omega
       have h126':c.toNat≤126:=by omega
       simp [num,tx,b7,O0,T7,S6,p8,hti,h1,hc,e1,e2,e3,e4,h34,h92,h32,h126,wi2,hr2]
       refine ⟨by omega,by omega,fin' _ ?_ ?_ ?_⟩
       · simp [num,tx]
       · simp [num,tx,qb,h34,h92,h32',h126']
       · simp [num,tx]
   · have e:i=t.length:=by omega
     subst e
     have hq:=a3q t
     simp [num,tx,b7,p8,S6,a00]
     omega
theorem c07 (t:Tx) (ht:t.length≤1048576):f9 Tryz.prog 121 [.val (tx t)] (.ret (.val (tx (a00 t))) []) []:=by
 refine F4 mixed ok121 rfl (fun _=>rfl) ?_
 unfold ir121
 rw [a8]
 simp [b9,p6,K4,a7,b8,tx,num,elems,b7]
 refine P0 (X:=Nat) (fun i=>⟨Q0 [(0,.val (tx t)),(3,.own 6),(8,.val (num t.length)),(9,.val (num i))],P6 [(6,.row 5 1 ((34 :: a08 (t.take i)).map rvb))]⟩) (fun i=>i≤t.length) (fun i=>t.length - i) 0 (Le.mk _ _ ?_ ?_) ?_ ?_
 · simp [upd,tx,num,PV.kill]
 · simp [upd,a08,rvb]
 · simp
 · intro i hi
   simp [num,tx]
   refine P4 (fun h1=>?_) (fun h1=>?_)
   · have hq:=a3q (t.take i)
     have hti:(t.take i).length=i:=by simp;omega
     have hsucc:=b0t t i h1
     obtain ⟨c,hc⟩:∃ c,t[i]=c:=⟨_,rfl⟩
     rw [hc] at hsucc
     have e1:((c.toNat:Int)=34)↔c.toNat=34:=by omega
     have e2:((c.toNat:Int)=92)↔c.toNat=92:=by omega
     have e3:((c.toNat:Int) < 32)↔c.toNat < 32:=by omega
     have e4:((126:Int) < c.toNat)↔126 < c.toNat:=by omega
     have h256:c.toNat < 256:=c.toNat_lt
     have wi2:IntKind.i64.wrap ((i:Int)+1)=(i:Int)+1:=wrap_i64 (by omega) (by omega)
     have wc:IntKind.i64.wrap (c.toNat:Int)=(c.toNat:Int):=wrap_i64 (by omega) (by omega)
     have fin':∀ st':St,st'.env 0=.val (tx t)→st'.env 3=.own 6→st'.env 8=.val (num t.length)→st'.env 9=.val (num ((i:Int)+1))→st'.mem 6=.row 5 1 ((34 :: a08 (t.take i)).map rvb++(qb c).map rvb)→∃ x',x'≤t.length∧t.length - x' < t.length - i∧Le st' ⟨Q0 [(0,.val (tx t)),(3,.own 6),(8,.val (num t.length)),(9,.val (num x'))],P6 [(6,.row 5 1 ((34 :: a08 (t.take x')).map rvb))]⟩:=fun st' q0 q3 q8 q9 m6=>by
      refine ⟨i+1,h1,by omega,Le.mk _ _ ?_ ?_⟩
      · simp [q0,q3,q8,q9,num]
      · simp [m6,hsucc,rvb]
     by_cases h34:c.toNat=34
     · simp [num,tx,rvb,elems,b7,O0,h1,hc,e1,e2,e3,e4,h34,wi2]
       refine ⟨by omega,by omega,fin' _ ?_ ?_ ?_ ?_ ?_⟩
       · simp [num,tx]
       · simp [num,tx]
       · simp [num,tx]
       · simp [num,tx]
       · simp [num,tx,rvb,qb,h34]
     by_cases h92:c.toNat=92
     · simp [num,tx,rvb,elems,b7,O0,h1,hc,e1,e2,e3,e4,h92,wi2]
       refine ⟨by omega,by omega,fin' _ ?_ ?_ ?_ ?_ ?_⟩
       · simp [num,tx]
       · simp [num,tx]
       · simp [num,tx]
       · simp [num,tx]
       · simp [num,tx,rvb,qb,h92]
     simp [num,tx,rvb,elems,b7,O0,h1,hc,e1,e2,e3,e4,h34,h92,wi2,wc]
     refine d4 rfl rfl (.inl rfl) (Y1 c.toNat 32 126) ?_
     by_cases h32:32≤c.toNat∧c.toNat≤126
     · have h32':(32:Int)≤c.toNat∧(c.toNat:Int)≤126:=by omega
       rw [decide_eq_true h32']
       simp [num,tx,rvb,elems,b7,O0,h1,hc,e1,e2,e3,e4,h34,h92,wi2]
       refine ⟨by omega,by omega,fin' _ ?_ ?_ ?_ ?_ ?_⟩
       · simp [num,tx]
       · simp [num,tx]
       · simp [num,tx]
       · simp [num,tx]
       · simp [num,tx,rvb,qb,h34,h92,h32]
     · have h32':¬ ((32:Int)≤c.toNat∧(c.toNat:Int)≤126):=by omega
       rw [decide_eq_false h32']
       have hqb:qb c=[92,117,48,48,hexs.getD (c.toNat / 16) 0,hexs.getD (c.toNat % 16) 0]:=by unfold qb;rw [if_neg (by omega),if_neg h32]
       have w1:IntKind.u8.wrap ((c.toNat:Int) / 16)=((c.toNat / 16:Nat):Int):=by rw [a0j (by omega) (by omega)];omega
       have w2:((c.toNat:Int)).tmod 16=((c.toNat % 16:Nat):Int):=by rw [Int.tmod_eq_emod_of_nonneg (by omega)];omega
       generalize ha:hexs.getD (c.toNat / 16) 0=a at hqb
       generalize hb:hexs.getD (c.toNat % 16) 0=b at hqb
       have f1:([48,49,50,51,52,53,54,55,56,57,97,98,99,100,101,102]:List UInt8)[c.toNat / 16]?.getD 0=a:=by rw [← ha,List.getD_eq_getElem?_getD];rfl
       have f2:([48,49,50,51,52,53,54,55,56,57,97,98,99,100,101,102]:List UInt8)[c.toNat % 16]?.getD 0=b:=by rw [← hb,List.getD_eq_getElem?_getD];rfl
       generalize hn1:c.toNat / 16=n1 at w1 f1 ha
       generalize hn2:c.toNat % 16=n2 at w2 f2 hb
       have g1:n1 < 16:=by omega
       have g2:n2 < 16:=by omega
       have f3:([48,49,50,51,52,53,54,55,56,57,97,98,99,100,101,102]:List UInt8)[n1]'g1=a:=by rw [← f1,List.getElem?_eq_getElem g1];rfl
       have f4:([48,49,50,51,52,53,54,55,56,57,97,98,99,100,101,102]:List UInt8)[n2]'g2=b:=by rw [← f2,List.getElem?_eq_getElem g2];rfl
       simp [num,tx,rvb,elems,b7,O0,h1,hc,e1,e2,e3,e4,p8,h34,h92,wi2,w1,w2,f3,f4,g1,g2]
       refine ⟨by omega,by omega,by omega,by omega,fin' _ ?_ ?_ ?_ ?_ ?_⟩
       · simp [num,tx]
       · simp [num,tx]
       · simp [num,tx]
       · simp [num,tx]
       · simp [num,tx,rvb,hqb]
   · have e:i=t.length:=by omega
     subst e
     have hq:=a3q t
     simp [num,tx,elems]
     refine ⟨by omega,by omega,?_⟩
     have e:rvb 34 :: ((a08 t).map rvb++[RV.int .u8 34])=(a00 t).map rvb:=by simp [a00,rvb]
     exact ⟨⟨rfl,fun x _=>rfl,rfl⟩,by rw [e,a5o]⟩
end
end Go.Proofs
end
section
namespace Go.Proofs
open Go.PW Go.KP
attribute [local simp] RV.cells RV.one PV.cells PV.solid PV.one F7 a6 N5 N7 RV.ofCells elems PV.killL
section
variable [GF]
def V4 (k n:Int) (t:Tx) (ns:List Tx) (is:List LJson):MObj:=.box [.val (num k),.val (num n),.val (tx t),.val (.list 1 (ns.map tx)),.val (.list 5 (is.map J9))]
def a2r (k:Int) (ns:List Tx) (x:LJson) (i:Nat):Tx:=if k=6 then a00 (ns.getD i [])++58 :: jtx x else jtx x
theorem b98 {K:Kx (PExit→St→Prop)} (k n:Int) (t:Tx) (ns:List Tx) (is:List LJson) (i:Nat) (q:Tx) (h1:i < is.length) (hq:q.length≤70368752566272) (hl:(jtx is[i]).length≤70368752566272)
 (hC:f9 Tryz.prog 177 [.val (J9 is[i])] (.ret (.val (tx (jtx is[i]))) []) [])
 (hn:∀ st':St,st'.env 1=.ptr 1 0→st'.env 3=.val (tx (q++jtx is[i]))→st'.env 4=.val (num i)→st'.mem 1=V4 k n t ns is→K.k .normal st')
 (st:St) (e1:st.env 1=.ptr 1 0) (e3:st.env 3=.val (tx q)) (e4:st.env 4=.val (num i)) (m1:st.mem 1=V4 k n t ns is):EC Tryz.prog ir177_s49 st (K:=K):=by
 obtain ⟨⟨k',n',t',ns',is'⟩,hx⟩:∃ x,is[i]=x:=⟨_,rfl⟩
 rw [hx] at hl hC hn
 rw [p7] at hC
 obtain ⟨r,hr⟩:∃ r,jtx (.mk k' n' t' ns' is')=r:=⟨_,rfl⟩
 rw [hr] at hl hC hn
 unfold ir177_s49
 simp [e1,e3,e4,m1,V4,num,tx,h1,hx,p7]
 refine d4 rfl rfl (.inl rfl) hC ?_
 simp [num,tx,b7,S6]
 refine ⟨by omega,hn _ ?_ ?_ ?_ ?_⟩
 all_goals simp [e1,e3,e4,m1,V4,num,tx]
theorem b99 {K:Kx (PExit→St→Prop)} (k n:Int) (t:Tx) (ns:List Tx) (is:List LJson) (i:Nat) (q:Tx) (h1:i < is.length) (hq:q.length≤70368744177664) (hl:(jtx is[i]).length≤70368744177664)
 (hk:k=6→ns.length=is.length∧∀ s∈ns,s.length≤1048576)
 (hC:f9 Tryz.prog 177 [.val (J9 is[i])] (.ret (.val (tx (jtx is[i]))) []) [])
 (hn:∀ st':St,st'.env 1=.ptr 1 0→st'.env 3=.val (tx (q++a2r k ns is[i] i))→st'.env 4=.val (num i)→st'.mem 1=V4 k n t ns is→K.k .normal st')
 (st:St) (e1:st.env 1=.ptr 1 0) (e3:st.env 3=.val (tx q)) (e4:st.env 4=.val (num i)) (m1:st.mem 1=V4 k n t ns is):EC Tryz.prog ir177_s37 st (K:=K):=by
 unfold ir177_s37
 by_cases h6:k=6
 · obtain ⟨hnl,hns⟩:=hk h6
   have h2:i < ns.length:=by omega
   have hqn:=a4b ns[i]
   have hsl:=hns _ (List.getElem_mem h2)
   have hQ:=b14 ns[i] hsl
   simp [e1,e3,e4,m1,V4,num,tx,h6,h2]
   refine d4 rfl rfl (.inl rfl) hQ ?_
   simp [num,tx,b7,S6,p8]
   refine ⟨by omega,by omega,?_⟩
   refine b98 6 n t ns is i (q++(a00 ns[i]++[58])) h1 (by simp;omega) (by omega) hC (fun st' q1 q3 q4 m1=>hn st' q1 ?_ q4 (by rw [h6];exact m1)) _ ?_ ?_ ?_ ?_
   · rw [q3];simp [a2r,h6,List.getD_eq_getElem?_getD,h2]
   all_goals simp [e1,e3,e4,m1,V4,num,tx,h6]
 · simp [e1,e3,e4,m1,V4,num,tx,h6]
   refine b98 k n t ns is i q h1 (by omega) (by omega) hC (fun st' q1 q3 q4 m1=>hn st' q1 (by rw [q3];simp [a2r,h6]) q4 m1) _ ?_ ?_ ?_ ?_
   all_goals simp [e1,e3,e4,m1,V4,num,tx]
theorem a7y (k:Int) (ns:List Tx) (is:List LJson) (hk:k=6→ns.length=is.length) (i:Nat) (h:i < is.length):(T3 k ns (is.map jtx)).length=is.length∧∀ h',(T3 k ns (is.map jtx))[i]'h' = a2r k ns is[i] i:=by
 refine ⟨by rw [a0s,List.length_map],fun h'=>?_⟩
 by_cases h6:k=6
 · subst h6
   have hn:=hk rfl
   rw [a65 ns _ (by rw [List.length_map];exact hn) i (by omega) (by rw [List.length_map];exact h)]
   simp [a2r,List.getD_eq_getElem?_getD,show i < ns.length by omega]
 · have e:=a1d h6 ns (is.map jtx)
   simp only [e,a2r,if_neg h6,List.getElem_map]
theorem c3r {d:Nat} (k n:Int) (t:Tx) (ns:List Tx) (is:List LJson) (hd:d≤3) (hkk:k=5∨(k=6∧ns.length=is.length∧∀ s∈ns,s.length≤120)) (hl:is.length≤12) (hs:∀ x∈is,R3 d x)
 (hCs:∀ x∈is,f9 Tryz.prog 177 [.val (J9 x)] (.ret (.val (tx (jtx x))) []) []):f9 Tryz.prog 177 [.val (J9 (.mk k n t ns is))] (.ret (.val (tx (jtx (.mk k n t ns is)))) []) []:=by
 refine F4 mixed ok177 rfl (fun _=>rfl) ?_
 unfold ir177
 rw [a8]
 rw [p7]
 have hk':k=5∨k=6:=hkk.elim .inl fun h=>.inr h.1
 have n1:¬ k=1:=by omega
 have n2:¬ k=2:=by omega
 have n3:¬ k=3:=by omega
 have n4:¬ k=4:=by omega
 have h6:k=6→ns.length=is.length∧∀ s∈ns,s.length≤1048576:=fun h=>hkk.elim (fun h5=>by omega) fun h=>⟨h.2.1,fun s hs=>by have:=h.2.2 s hs;omega⟩
 have hacc:=fun i=>(a3t hd hkk hl hs i).1
 obtain ⟨r,hr⟩:∃ r,jtx (.mk k n t ns is)=r:=⟨_,rfl⟩
 rw [hr]
 simp [b9,p6,K4,a7,b8,tx,num,n1,n2,n3,n4]
 refine P0 (X:=Nat) (fun i=>⟨Q0 [(1,.ptr 1 0),(3,.val (tx (a0f [44] ((T3 k ns (is.map jtx)).take i)))),(4,.val (num i))],P6 [(1,V4 k n t ns is)]⟩) (fun i=>i≤is.length) (fun i=>is.length - i) 0 (Le.mk _ _ ?_ ?_) ?_ ?_
 · simp [upd,num,tx,PV.kill,a0f,p8]
 · simp [tx,num,V4]
 · simp
 · intro i hi
   have hai:=hacc i
   simp [num,tx,V4]
   refine P4 (fun h1=>?_) (fun h1=>?_)
   · obtain ⟨g1,g2⟩:=a7y k ns is (fun h=>(h6 h).1) i h1
     have hst:=b81 [44] (T3 k ns (is.map jtx)) i (by rw [g1];exact h1)
     rw [g2] at hst
     have wi:IntKind.i64.wrap ((i:Int)+1)=((i+1:Nat):Int):=by rw [wrap_i64 (by omega) (by omega)];omega
     have hC:=hCs is[i] (List.getElem_mem h1)
     have hil:=(a3t hd hkk hl hs i).2 _ (List.getElem_mem h1)
     generalize hA:a0f [44] ((T3 k ns (is.map jtx)).take i)=A at *
     simp [num,tx]
     refine P4 (fun h0=>?_) (fun h0=>?_)
     · rw [if_neg (by omega)] at hst
       simp [num,tx,b7,p8,S6]
       refine ⟨by omega,?_⟩
       refine b99 k n t ns is i (A++[44]) h1 (by simp;omega) (by omega) h6 hC (fun st' q1 q3 q4 m1=>?_) _ ?_ ?_ ?_ ?_
       · simp [q1,q3,q4,num]
         refine LoopNext.mk (i+1) h1 (by omega) (Le.mk _ _ ?_ ?_)
         · simp [num,q1,q3,q4,wi,hst]
         · simp [m1]
       all_goals simp [num,tx,V4]
     · rw [if_pos (by omega)] at hst
       simp [num,tx]
       refine b99 k n t ns is i A h1 (by omega) (by omega) h6 hC (fun st' q1 q3 q4 m1=>?_) _ ?_ ?_ ?_ ?_
       · simp [q1,q3,q4,num]
         refine LoopNext.mk (i+1) h1 (by omega) (Le.mk _ _ ?_ ?_)
         · simp [num,q1,q3,q4,wi,hst]
         · simp [m1]
       all_goals simp [num,tx,V4]
   · have e:i=is.length:=by omega
     subst e
     have ht:(T3 k ns (is.map jtx)).take is.length=T3 k ns (is.map jtx):=List.take_of_length_le (by rw [a0s,List.length_map];omega)
     rw [ht] at hai
     rw [Y0,if_neg n1,if_neg n2,if_neg n3,if_neg n4] at hr
     rcases hk' with rfl | rfl
     · rw [if_pos rfl] at hr
       rw [a1d (by decide)] at hai ht
       simp [num,tx,V4,p8,S6,b7]
       try rw [a1d (by decide)]
       rw [List.take_of_length_le (by rw [List.length_map];omega)]
       refine ⟨by omega,by omega,by rw [← hr]⟩
     · rw [if_neg (by decide)] at hr
       simp [num,tx,V4,p8,S6,b7]
       rw [ht]
       refine ⟨by omega,by omega,by rw [← hr]⟩
theorem a7i:∀ (d:Nat) (j:LJson),d≤4→R3 d j→f9 Tryz.prog 177 [.val (J9 j)] (.ret (.val (tx (jtx j))) []) []
 | d,.mk k n t ns is,hd,h=>by
  unfold R3 at h
  rcases h with ⟨rfl,rfl,rfl,rfl,rfl⟩ | ⟨rfl,hb,rfl,rfl,rfl⟩ | ⟨rfl,h1,rfl,rfl,rfl⟩ | ⟨rfl,rfl,h1,rfl,rfl⟩ | ⟨rfl,rfl,hl,hkk0,hs0⟩
  · refine F4 mixed ok177 rfl (fun _=>rfl) ?_
    unfold ir177
    rw [a8,p7]
    simp [b9,p6,K4,a7,b8,tx,num,Y0,jnull,p8]
  · rcases hb with rfl | rfl
    · refine F4 mixed ok177 rfl (fun _=>rfl) ?_
      unfold ir177
      rw [a8,p7]
      simp [b9,p6,K4,a7,b8,tx,num,Y0,jfalse,p8]
    · refine F4 mixed ok177 rfl (fun _=>rfl) ?_
      unfold ir177
      rw [a8,p7]
      simp [b9,p6,K4,a7,b8,tx,num,Y0,jtrue,p8]
  · refine F4 mixed ok177 rfl (fun _=>rfl) ?_
    unfold ir177
    rw [a8,p7]
    simp [b9,p6,K4,a7,b8,tx,num]
    refine d4 rfl rfl (.inl rfl) (b5g n (by omega) (by omega)) ?_
    simp [Y0,tx]
  · refine F4 mixed ok177 rfl (fun _=>rfl) ?_
    unfold ir177
    rw [a8,p7]
    simp [b9,p6,K4,a7,b8,tx,num]
    refine d4 rfl rfl (.inl rfl) (b14 t (by omega)) ?_
    simp [Y0,tx]
  · cases d with
    | zero=>exact hs0.elim
    | succ d=>
    have hs:∀ x∈is,R3 d x:=hs0
    have hkk:k=5∨(k=6∧ns.length=is.length∧∀ s∈ns,s.length≤120):=by
     rcases hkk0 with ⟨h,_⟩ | ⟨h,h2,_,h4⟩
     · exact .inl h
     · exact .inr ⟨h,h2,h4⟩
    exact c3r k 0 [] ns is (by omega) hkk hl hs (fun x hx=>a7i d x (by omega) (hs x hx))
end
end Go.Proofs
end
section
namespace Go.Proofs
open Go.PW Go.KP Go.RowKit
variable [GH]
theorem b3f (sep:Tx) (l:List Tx):Go.Lib.join l sep=a0f sep l:=by
 cases l with
 | nil=>rfl
 | cons x r=>rw [Go.Lib.join_cons];rfl
theorem a88 (t:Tx):(bs t).data.toList=t:=by simp [bs]
theorem a6o (l:List Tx):(l.map bs).map (fun x=>x.data.toList)=l:=by
 rw [List.map_map]
 conv=>rhs;rw [← List.map_id l]
 exact List.map_congr_left fun t _=>a88 t
theorem c5b (l:List Tx) (sep:Tx) (hl:(a0f sep l).length≤140737488355328) (hn:l.length≤140737488355328):f9 Tryz.prog 122 [.val (.list 1 (l.map tx)),.val (tx sep)] (.ret (.val (tx (a0f sep l))) []) []:=by
 intro L w vs ms hL hgl hgb hargs hnd
 cases hargs with
 | cons _ _ v vs' ms1 ms2 h1 h2=>
  cases h1 with
  | val _ _ h1=>
   obtain ⟨rfl,rfl⟩:=a98 (rs:=[tx sep]) rfl h2
   have key:Calls Tryz.prog 122 #[v,.string (bs sep)] w fun e w'=>e=.returned (.string (bs (a0f sep l)))∧Below w.heap.size w w':=by
    generalize hr:RV.list 1 (l.map tx)=r at h1
    cases h1 with
    | list0 sz A c=>
     injection hr with e1 e2
     have:l=[]:=by simpa using e2
     subst this
     exact (Tryz.strings_Join_none A c (bs sep) w).mono fun e w' ⟨he,hw⟩=>⟨he,hw ▸ Below.refl _ _⟩
    | list sz xs b o c f h0 hsz hcap hb hc hx h=>
     injection hr with e1 e2
     subst e1;subst e2
     have hlen:(l.map tx).length=l.length:=by simp
     have hlen':(l.map bs).length=l.length:=by simp
     have hpos:0 < l.length:=by rw [← hlen];exact List.length_pos_iff.2 h0
     have hcell:∀ (j:Nat) x,(l.map bs)[j]?=some x→w.cell? ⟨b,o+j,none⟩=some (.string x):=fun j x hj=>by
      obtain ⟨hj1,hj2⟩:=List.getElem?_eq_some_iff.1 hj
      rw [hlen'] at hj1
      rw [hc j (by rw [hlen];omega)]
      have hh:=h j 0 (by rw [hlen];exact hj1) (by omega)
      have eg:((l.map tx).getD j RV.nilptr)=tx l[j]:=by
       rw [List.getD_eq_getElem?_getD,List.getElem?_eq_getElem (by rw [hlen];exact hj1)];simp
      rw [eg] at hh
      have e3:(tx l[j]).cells.getD 0 RV.nilptr=.str (bs l[j]):=rfl
      rw [e3,Nat.mul_one,Nat.add_zero] at hh
      generalize f j=u at hh
      cases hh
      have:bs l[j]=x:=by rw [← hj2];simp
      rw [this]
     have hbk:b < w.heap.size:=World.block_lt_of_cell? w _ (hc 0 (by rw [hlen];omega))
     have:=Tryz.strings_Join b o c (l.map bs) (bs sep) w hcell hbk (by rw [hlen'];exact hn) (by rw [hlen',← hlen];exact hcap)
      (by rw [a6o,a88,b3f];exact hl)
     rw [a6o,a88,b3f,hlen'] at this
     rw [hlen]
     exact this
    | _=>cases hr
   refine key.mono fun e w' ⟨he,hb⟩=>?_
   exact ⟨Outside.of_below hb,_,fun _=>undef,he,.val _ _ (.str _),a41,rfl,fun i b cells h1 h2=>by simp at h1⟩
end Go.Proofs
end
section
namespace Go.Proofs
open Go.PW Go.KP
attribute [local simp] RV.cells RV.one PV.cells PV.solid PV.one F7 a6 N5 N7 RV.ofCells elems PV.killL
section
variable [GH]
structure XS2 (st:St) (k n:Int) (t:Tx) (ns:List Tx) (is:List LJson) (i:Nat):Prop where
 e1:st.env 1=.ptr 1 0
 e3:st.env 3=.own 30
 e32:st.env 32=.val (.list 5 (is.map J9))
 e33:st.env 33=.val (num is.length)
 e34:st.env 34=.val (num i)
 m1:st.mem 1=V4 k n t ns is
theorem b96 {K:Kx (PExit→St→Prop)} (k n:Int) (t:Tx) (ns:List Tx) (is:List LJson) (i:Nat) (p:Tx) (L:List Tx) (hL:L.length≤16)
 (hn:∀ st':St,XS2 st' k n t ns is i→st'.mem 30=.row 9 1 (L.map tx++[tx p])→K.k .normal st')
 (st:St) (h:XS2 st k n t ns is i) (e6:st.env 6=.val (tx p)) (m30:st.mem 30=.row 9 1 (L.map tx)):EC Tryz.prog ir60_s53 st (K:=K):=by
 obtain ⟨e1,e3,e32,e33,e34,m1⟩:=h
 unfold ir60_s53
 simp [e1,e3,e6,e32,e33,e34,m1,m30,num,tx,elems,a6,RV.one]
 refine ⟨by omega,by omega,hn _ ⟨?_,?_,?_,?_,?_,?_⟩ ?_⟩
 all_goals simp [e1,e3,e6,e32,e33,e34,m1,m30,num,tx,V4,MObj.kill]
theorem b97 {K:Kx (PExit→St→Prop)} (k n:Int) (t:Tx) (ns:List Tx) (is:List LJson) (i:Nat) (L:List Tx) (hL:L.length≤16) (h1:i < is.length)
 (hl:(jtx is[i]).length≤70368744177664)
 (hk:k=6→ns.length=is.length∧∀ s∈ns,s.length≤1048576)
 (hn:∀ st':St,XS2 st' k n t ns is i→st'.mem 30=.row 9 1 (L.map tx++[tx (a2r k ns is[i] i)])→K.k .normal st')
 (st:St) (h:XS2 st k n t ns is i) (e4:st.env 4=.val (num i)) (e6:st.env 6=.val (tx (jtx is[i]))) (m30:st.mem 30=.row 9 1 (L.map tx)):EC Tryz.prog ir60_s41 st (K:=K):=by
 unfold ir60_s41
 have hc:=h
 obtain ⟨e1,e3,e32,e33,e34,m1⟩:=h
 by_cases h6:k=6
 · obtain ⟨hnl,hns⟩:=hk h6
   have h2:i < ns.length:=by omega
   have hqn:=a4b ns[i]
   have hsl:=hns _ (List.getElem_mem h2)
   have hQ:=c07 ns[i] hsl
   simp [e1,e3,e4,e6,m1,V4,num,tx,h6,h2]
   refine d4 rfl rfl (.inl rfl) hQ ?_
   simp [num,tx,e6,b7,S6,p8]
   refine ⟨by omega,by omega,?_⟩
   refine b96 k n t ns is i (a00 ns[i]++58 :: jtx is[i]) L hL (fun st' q m=>hn st' q ?_) _ ⟨?_,?_,?_,?_,?_,?_⟩ ?_ ?_
   · rw [m];simp [a2r,h6,List.getD_eq_getElem?_getD,h2]
   all_goals simp [e1,e3,e4,e6,e32,e33,e34,m1,m30,V4,num,tx,h6]
 · simp [e1,e3,e4,e6,m1,V4,num,tx,h6]
   refine b96 k n t ns is i (jtx is[i]) L hL (fun st' q m=>hn st' q (by rw [m];simp [a2r,h6])) _ ⟨?_,?_,?_,?_,?_,?_⟩ ?_ ?_
   all_goals simp [e1,e3,e4,e6,e32,e33,e34,m1,m30,V4,num,tx]
theorem c3q {d:Nat} (k n:Int) (t:Tx) (ns:List Tx) (is:List LJson) (hd:d≤3) (hkk:k=5∨(k=6∧ns.length=is.length∧∀ s∈ns,s.length≤120)) (hl:is.length≤12) (hs:∀ x∈is,R3 d x)
 (hCs:∀ x∈is,f9 Tryz.prog 60 [.val (J9 x)] (.ret (.val (tx (jtx x))) []) []):f9 Tryz.prog 60 [.val (J9 (.mk k n t ns is))] (.ret (.val (tx (jtx (.mk k n t ns is)))) []) []:=by
 refine F4 mixed ok60 rfl (fun _=>rfl) ?_
 unfold ir60
 rw [a8]
 rw [p7]
 have hk':k=5∨k=6:=hkk.elim .inl fun h=>.inr h.1
 have n1:¬ k=1:=by omega
 have n2:¬ k=2:=by omega
 have n3:¬ k=3:=by omega
 have n4:¬ k=4:=by omega
 have h6:k=6→ns.length=is.length∧∀ s∈ns,s.length≤1048576:=fun h=>hkk.elim (fun h5=>by omega) fun h=>⟨h.2.1,fun s hs=>by have:=h.2.2 s hs;omega⟩
 have hacc:=(a3t hd hkk hl hs is.length).1
 have hpl:(T3 k ns (is.map jtx)).length=is.length:=by rw [a0s,List.length_map]
 rw [List.take_of_length_le (by omega)] at hacc
 obtain ⟨r,hr⟩:∃ r,jtx (.mk k n t ns is)=r:=⟨_,rfl⟩
 rw [hr]
 obtain ⟨ps,hps⟩:∃ ps,T3 k ns (is.map jtx)=ps:=⟨_,rfl⟩
 have hget:=a7y k ns is fun h=>(h6 h).1
 rw [hps] at hacc hpl hget
 rcases hk' with rfl | rfl
 · simp [b9,p6,K4,a7,b8,tx,num,n1,n2,n3,n4]
   refine P0 (X:=Nat) (fun i=>⟨Q0 [(1,.ptr 1 0),(3,.own 30),(32,.val (.list 5 (is.map J9))),(33,.val (num is.length)),(34,.val (num i))],P6 [(1,V4 5 n t ns is),(30,.row 9 1 ((ps.take i).map tx))]⟩) (fun i=>i≤is.length) (fun i=>is.length - i) 0 (Le.mk _ _ ?_ ?_) ?_ ?_
   · simp [upd,num,tx,PV.kill]
   · simp [tx,num,V4,MObj.kill]
   · simp
   · intro i hi
     simp [num,tx]
     refine P4 (fun h1=>?_) (fun h1=>?_)
     · obtain ⟨g1,g2⟩:=hget i h1
       have hst:(ps.take (i+1)).map tx=(ps.take i).map tx++[tx (a2r 5 ns is[i] i)]:=by
        rw [List.take_add_one,List.getElem?_eq_getElem (by omega),g2,List.map_append];rfl
       have wi:IntKind.i64.wrap ((i:Int)+1)=((i+1:Nat):Int):=by rw [wrap_i64 (by omega) (by omega)];omega
       have hC:=hCs is[i] (List.getElem_mem h1)
       have hil:=(a3t hd hkk hl hs i).2 _ (List.getElem_mem h1)
       obtain ⟨⟨k',n',t',ns',is'⟩,hx⟩:∃ x,is[i]=x:=⟨_,rfl⟩
       have hC':=hC
       rw [hx,p7] at hC'
       simp [num,tx,h1,hx,p7]
       refine d4 rfl rfl (.inl rfl) hC' ?_
       simp [num,tx]
       refine b97 5 n t ns is i (ps.take i) (by simp;omega) h1 (by omega) h6 (fun st' q m=>?_) _ ⟨?_,?_,?_,?_,?_,?_⟩ ?_ ?_ ?_
       · obtain ⟨q1,q3,q32,q33,q34,m1⟩:=q
         simp [q1,q3,q32,q33,q34,num]
         refine LoopNext.mk (i+1) h1 (by omega) (Le.mk _ _ ?_ ?_)
         · simp [num,q1,q3,q32,q33,q34,wi]
         · rw [hst];simp [m1,m]
       all_goals simp [num,tx,V4,hx,MObj.kill]
     · have e:i=is.length:=by omega
       subst e
       have ht:ps.take is.length=ps:=List.take_of_length_le (by omega)
       rw [Y0,if_neg n1,if_neg n2,if_neg n3,if_neg n4,if_pos rfl] at hr
       simp [num,tx,V4]
       refine d4 (by simp [P5,avOf];exact ⟨List.take_of_length_le (by simp;omega),rfl⟩) rfl (.inr rfl) (c5b ps [44] (by omega) (by omega)) ?_
       have h5:is.map jtx=ps:=by rw [← hps,a1d (by decide)]
       rw [h5] at hr
       simp [num,tx,V4,p8,S6,b7]
       refine ⟨by omega,by omega,by rw [← hr]⟩
 · simp [b9,p6,K4,a7,b8,tx,num,n1,n2,n3,n4]
   refine P0 (X:=Nat) (fun i=>⟨Q0 [(1,.ptr 1 0),(3,.own 30),(32,.val (.list 5 (is.map J9))),(33,.val (num is.length)),(34,.val (num i))],P6 [(1,V4 6 n t ns is),(30,.row 9 1 ((ps.take i).map tx))]⟩) (fun i=>i≤is.length) (fun i=>is.length - i) 0 (Le.mk _ _ ?_ ?_) ?_ ?_
   · simp [upd,num,tx,PV.kill]
   · simp [tx,num,V4,MObj.kill]
   · simp
   · intro i hi
     simp [num,tx]
     refine P4 (fun h1=>?_) (fun h1=>?_)
     · obtain ⟨g1,g2⟩:=hget i h1
       have hst:(ps.take (i+1)).map tx=(ps.take i).map tx++[tx (a2r 6 ns is[i] i)]:=by
        rw [List.take_add_one,List.getElem?_eq_getElem (by omega),g2,List.map_append];rfl
       have wi:IntKind.i64.wrap ((i:Int)+1)=((i+1:Nat):Int):=by rw [wrap_i64 (by omega) (by omega)];omega
       have hC:=hCs is[i] (List.getElem_mem h1)
       have hil:=(a3t hd hkk hl hs i).2 _ (List.getElem_mem h1)
       obtain ⟨⟨k',n',t',ns',is'⟩,hx⟩:∃ x,is[i]=x:=⟨_,rfl⟩
       have hC':=hC
       rw [hx,p7] at hC'
       simp [num,tx,h1,hx,p7]
       refine d4 rfl rfl (.inl rfl) hC' ?_
       simp [num,tx]
       refine b97 6 n t ns is i (ps.take i) (by simp;omega) h1 (by omega) h6 (fun st' q m=>?_) _ ⟨?_,?_,?_,?_,?_,?_⟩ ?_ ?_ ?_
       · obtain ⟨q1,q3,q32,q33,q34,m1⟩:=q
         simp [q1,q3,q32,q33,q34,num]
         refine LoopNext.mk (i+1) h1 (by omega) (Le.mk _ _ ?_ ?_)
         · simp [num,q1,q3,q32,q33,q34,wi]
         · rw [hst];simp [m1,m]
       all_goals simp [num,tx,V4,hx,MObj.kill]
     · have e:i=is.length:=by omega
       subst e
       have ht:ps.take is.length=ps:=List.take_of_length_le (by omega)
       rw [Y0,if_neg n1,if_neg n2,if_neg n3,if_neg n4,if_neg (by decide)] at hr
       simp [num,tx,V4]
       refine d4 (by simp [P5,avOf];exact ⟨List.take_of_length_le (by simp;omega),rfl⟩) rfl (.inr rfl) (c5b ps [44] (by omega) (by omega)) ?_
       rw [hps] at hr
       simp [num,tx,V4,p8,S6,b7]
       refine ⟨by omega,by omega,by rw [← hr]⟩
theorem b9f:∀ (d:Nat) (j:LJson),d≤4→R3 d j→f9 Tryz.prog 60 [.val (J9 j)] (.ret (.val (tx (jtx j))) []) []
 | d,.mk k n t ns is,hd,h=>by
  unfold R3 at h
  rcases h with ⟨rfl,rfl,rfl,rfl,rfl⟩ | ⟨rfl,hb,rfl,rfl,rfl⟩ | ⟨rfl,h1,rfl,rfl,rfl⟩ | ⟨rfl,rfl,h1,rfl,rfl⟩ | ⟨rfl,rfl,hl,hkk0,hs0⟩
  · refine F4 mixed ok60 rfl (fun _=>rfl) ?_
    unfold ir60
    rw [a8,p7]
    simp [b9,p6,K4,a7,b8,tx,num,Y0,jnull,p8]
  · rcases hb with rfl | rfl
    · refine F4 mixed ok60 rfl (fun _=>rfl) ?_
      unfold ir60
      rw [a8,p7]
      simp [b9,p6,K4,a7,b8,tx,num,Y0,jfalse,p8]
    · refine F4 mixed ok60 rfl (fun _=>rfl) ?_
      unfold ir60
      rw [a8,p7]
      simp [b9,p6,K4,a7,b8,tx,num,Y0,jtrue,p8]
  · refine F4 mixed ok60 rfl (fun _=>rfl) ?_
    unfold ir60
    rw [a8,p7]
    simp [b9,p6,K4,a7,b8,tx,num]
    refine d4 rfl rfl (.inl rfl) (c2u n (by omega) (by omega)) ?_
    simp [Y0,tx]
  · refine F4 mixed ok60 rfl (fun _=>rfl) ?_
    unfold ir60
    rw [a8,p7]
    simp [b9,p6,K4,a7,b8,tx,num]
    refine d4 rfl rfl (.inl rfl) (c07 t (by omega)) ?_
    simp [Y0,tx]
  · cases d with
    | zero=>exact hs0.elim
    | succ d=>
    have hs:∀ x∈is,R3 d x:=hs0
    have hkk:k=5∨(k=6∧ns.length=is.length∧∀ s∈ns,s.length≤120):=by
     rcases hkk0 with ⟨h,_⟩ | ⟨h,h2,_,h4⟩
     · exact .inl h
     · exact .inr ⟨h,h2,h4⟩
    exact c3q k 0 [] ns is (by omega) hkk hl hs (fun x hx=>b9f d x (by omega) (hs x hx))
end
end Go.Proofs
end
section
namespace Go.Proofs
open Go.PW Go.KP
attribute [local simp] RV.cells RV.one PV.cells PV.solid PV.one F7 a6 N5 N7 RV.ofCells elems PV.killL
variable [GF]
def V8:Nat→LJson→Bool
 | 0,_=>false
 | d+1,.mk k n t ns is=>if k=5∨k=6 then decide (0 < d) && is.all (V8 d) else true
theorem b5f (g:Nat) (k n:Int) (t:Tx) (d:Nat) (hd:d≤5) (h:R3 g (.mk k n t [] [])) (hk:¬ (k=5∨k=6)):f9 Tryz.prog 255 [.val (J9 (.mk k n t [] [])),.val (num ((d+1:Nat):Int))] (.ret (.val (.bool true)) []) []:=by
 unfold R3 at h
 refine F4 mixed ok255 rfl (fun _=>rfl) ?_
 unfold ir255
 rw [a8,p7]
 rcases h with ⟨rfl,rfl,rfl,_,_⟩ | ⟨rfl,hb,rfl,_,_⟩ | ⟨rfl,h1,rfl,_,_⟩ | ⟨rfl,rfl,h1,_,_⟩ | ⟨rfl,rfl,hl,hkk0,hs0⟩
 · simp [b9,p6,K4,a7,b8,tx,num,p8,Q8]
 · simp [b9,p6,K4,a7,b8,tx,num,p8,Q8]
   refine d4 rfl rfl (.inl rfl) (a4i .i64 n 0 1) ?_
   rcases hb with rfl | rfl<;>simp [b9,p6,K4,a7,b8,tx,num,p8,Q8]
 · simp [b9,p6,K4,a7,b8,tx,num,p8,Q8]
   refine d4 rfl rfl (.inl rfl) (a4i .i64 n (-999999999) 999999999) ?_
   simp [b9,p6,K4,a7,b8,tx,num,p8,Q8,h1]
 · have h2:(t.length:Int)≤120:=by omega
   simp [b9,p6,K4,a7,b8,tx,num,p8,Q8,b7,h1,h2]
 · rcases hkk0 with ⟨h,_⟩ | ⟨h,_⟩<;>exact absurd (by simp [h]) hk
theorem b5e (d:Nat) (k:Int) (ns:List Tx) (is:List LJson) (hd:d≤5) (hl:is.length≤12) (hk:k=5∧ns=[]∨k=6∧ns.length=is.length∧ns.Nodup∧∀ s∈ns,s.length≤120)
 (hCs:0 < d→∀ x∈is,f9 Tryz.prog 255 [.val (J9 x),.val (num (d:Int))] (.ret (.val (.bool (V8 d x))) []) []):f9 Tryz.prog 255 [.val (J9 (.mk k 0 [] ns is)),.val (num ((d+1:Nat):Int))] (.ret (.val (.bool (decide (0 < d) && is.all (V8 d)))) []) []:=by
 obtain ⟨R,hR⟩:∃ R,(decide (0 < d) && is.all (V8 d))=R:=⟨_,rfl⟩
 rw [hR]
 refine F4 mixed ok255 rfl (fun _=>rfl) ?_
 have hl':¬ (12:Int) < (is.length:Int):=by omega
 rcases Nat.eq_zero_or_pos d with rfl | hd0
 · simp at hR
   subst hR
   unfold ir255
   rw [a8,p7]
   rcases hk with ⟨rfl,rfl⟩ | ⟨rfl,hn,hnd,hns⟩
   · simp [b9,p6,K4,a7,b8,tx,num,p8,Q8]
   · simp [b9,p6,K4,a7,b8,tx,num,p8,Q8]
     refine P4 (fun h=>?_) (fun h=>?_)
     all_goals simp [b9,p6,K4,a7,b8,tx,num,p8,Q8,h]
 · have hd1:¬ (d:Int)+1=1:=by omega
   have hd2:¬ d=0:=by omega
   obtain ⟨Z,hZ⟩:∃ Z,a4s [.t 4] (.val (.bool R))=Z:=⟨_,rfl⟩
   rw [hZ]
   unfold ir255
   rw [a8,p7]
   rcases hk with ⟨rfl,rfl⟩ | ⟨rfl,hn,hnd,hns⟩
   · simp [b9,p6,K4,a7,b8,tx,num,p8,Q8,hd1,hd2,hl,hl']
     refine P0 (X:=Nat) (fun i=>⟨Q0 [(1,.val (num ((d:Int)+1))),(2,.ptr 2 0),(6,.val (num (i:Int)))],P6 [(2,.box [.val (num 5),.val (num 0),.val (tx []),.val (.list 1 []),.val (.list 5 (is.map J9))])]⟩)
      (fun i=>i≤is.length∧∀ j (h:j < is.length),j < i→V8 d is[j]=true) (fun i=>is.length - i) 0 (Le.mk _ _ ?_ ?_) ⟨Nat.zero_le _,fun j _ h=>absurd h (Nat.not_lt_zero _)⟩ ?_
     · simp [num,tx,PV.kill]
     · simp [num,tx,MObj.kill,PV.kill,PV.killL,p8]
     · rintro i ⟨hi,hall⟩
       have wi:IntKind.i64.wrap ((i:Int)+1)=((i+1:Nat):Int):=by rw [wrap_i64 (by omega) (by omega)];omega
       have wd:IntKind.i64.wrap (d:Int)=(d:Int):=wrap_i64 (by omega) (by omega)
       by_cases h1:i < is.length
       · have hC:=hCs hd0 is[i] (List.getElem_mem h1)
         obtain ⟨y,hy⟩:∃ y,is[i]=y:=⟨_,rfl⟩
         obtain ⟨b,hb⟩:∃ b,V8 d is[i]=b:=⟨_,rfl⟩
         rw [hb,hy] at hC
         obtain ⟨a1,a2,a3,a4,a5⟩:=y
         rw [p7] at hC
         simp [num,tx,h1,hy,p7,wd]
         refine R9 rfl rfl (.inl rfl) hC ?_
         cases b with
         | true=>
          simp [num,tx,h1,hy,p7]
          refine LoopNext.mk (i+1) ⟨h1,fun j hj hji=>?_⟩ (by omega) (Le.mk _ _ ?_ ?_)
          · by_cases e:j=i
            · subst e;exact hb
            · exact hall j hj (by omega)
          · simp [num,wi,tx]
          · simp [num,tx]
         | false=>
          simp [num,tx,h1,hy,p7]
          have hf:R=false:=by
           rw [← hR]
           have:is.all (V8 d)=false:=by
            rw [Bool.eq_false_iff];intro ha
            have:=List.all_eq_true.1 ha is[i] (List.getElem_mem h1)
            rw [hb] at this;cases this
           rw [this,Bool.and_false]
          rw [← hZ,hf]
          simp [num,tx]
       · have ht:R=true:=by
          rw [← hR,decide_eq_true hd0,Bool.true_and,List.all_eq_true]
          intro x hx
          obtain ⟨j,hj,rfl⟩:=List.mem_iff_getElem.1 hx
          exact hall j hj (by omega)
         simp [num,tx,h1]
         rw [← hZ,ht]
         simp [num,tx]
   · have hnl:(ns.length:Int)=(is.length:Int):=by omega
     by_cases en:is=[]
     · subst en
       have hns0:ns=[]:=List.eq_nil_of_length_eq_zero hn
       subst hns0
       have ht:R=true:=by rw [← hR,decide_eq_true hd0];rfl
       simp [b9,p6,K4,a7,b8,tx,num,p8,Q8,hd1,hd2]
       refine P0 (X:=Unit) (fun _=>⟨Q0 [(1,.val (num ((d:Int)+1))),(2,.ptr 2 0),(6,.val (num 0))],P6 [(2,.box [.val (num 6),.val (num 0),.val (tx []),.val (.list 1 []),.val (.list 5 [])])]⟩) (fun _=>True) (fun _=>0) () (Le.mk _ _ ?_ ?_) trivial ?_
       · simp [num,tx,PV.kill]
       · simp [num,tx,MObj.kill,PV.kill,PV.killL,p8]
       · rintro _ _
         simp [num,tx]
         rw [← hZ,ht]
         simp [num,tx]
     · have en2:¬ ns=[]:=fun h=>en (List.eq_nil_of_length_eq_zero (by rw [← hn,h];rfl))
       simp [b9,p6,K4,a7,b8,tx,num,p8,Q8,hd1,hd2,hl,hl',hn,en,en2]
       refine P0 (X:=Nat) (fun i=>⟨Q0 [(1,.val (num ((d:Int)+1))),(2,.ptr 2 0),(6,.val (num (i:Int)))],P6 [(2,.box [.val (num 6),.val (num 0),.val (tx []),.val (.list 1 (ns.map tx)),.val (.list 5 (is.map J9))])]⟩)
        (fun i=>i≤is.length∧∀ j (h:j < is.length),j < i→V8 d is[j]=true) (fun i=>is.length - i) 0 (Le.mk _ _ ?_ ?_) ⟨Nat.zero_le _,fun j _ h=>absurd h (Nat.not_lt_zero _)⟩ ?_
       · simp [num,tx,PV.kill]
       · simp [num,tx,MObj.kill,PV.kill,PV.killL,p8]
       · rintro i ⟨hi,hall⟩
         have wi:IntKind.i64.wrap ((i:Int)+1)=((i+1:Nat):Int):=by rw [wrap_i64 (by omega) (by omega)];omega
         have wd:IntKind.i64.wrap (d:Int)=(d:Int):=wrap_i64 (by omega) (by omega)
         by_cases h1:i < is.length
         · have hC:=hCs hd0 is[i] (List.getElem_mem h1)
           obtain ⟨y,hy⟩:∃ y,is[i]=y:=⟨_,rfl⟩
           obtain ⟨b,hb⟩:∃ b,V8 d is[i]=b:=⟨_,rfl⟩
           rw [hb,hy] at hC
           obtain ⟨a1,a2,a3,a4,a5⟩:=y
           rw [p7] at hC
           have h2:i < ns.length:=by omega
           obtain ⟨u,hu⟩:∃ u,ns[i]=u:=⟨_,rfl⟩
           have hul:u.length≤120:=by rw [← hu];exact hns _ (List.getElem_mem h2)
           have hul':¬ (120:Int) < (u.length:Int):=by omega
           have hH:=b7v (ns.take i) u (by rw [List.length_take];omega)
           have hun:u∉ns.take i:=by
            rw [← hu]
            intro hm
            obtain ⟨q,hq,he⟩:=List.mem_iff_getElem.1 hm
            rw [List.length_take] at hq
            rw [List.getElem_take] at he
            have:=(List.getElem_inj hnd).1 he
            omega
           rw [decide_eq_false hun] at hH
           simp [num,tx,h1,hy,p7,wd]
           refine R9 rfl rfl (.inl rfl) hC ?_
           cases b with
           | true=>
            simp [num,tx,h1,h2,hy,hu,hul',b7,p7]
            refine ⟨by omega,?_⟩
            refine R9 (by simp [P5,avOf,tx]) rfl (.inl rfl) hH ?_
            simp [num,tx,h1,h2,hy,hu,hul',b7,p7]
            refine LoopNext.mk (i+1) ⟨h1,fun j hj hji=>?_⟩ (by omega) (Le.mk _ _ ?_ ?_)
            · by_cases e:j=i
              · subst e;exact hb
              · exact hall j hj (by omega)
            · simp [num,wi,tx]
            · simp [num,tx]
           | false=>
            simp [num,tx,h1,hy,p7]
            have hf:R=false:=by
             rw [← hR]
             have:is.all (V8 d)=false:=by
              rw [Bool.eq_false_iff];intro ha
              have:=List.all_eq_true.1 ha is[i] (List.getElem_mem h1)
              rw [hb] at this;cases this
             rw [this,Bool.and_false]
            rw [← hZ,hf]
            simp [num,tx]
         · have ht:R=true:=by
            rw [← hR,decide_eq_true hd0,Bool.true_and,List.all_eq_true]
            intro x hx
            obtain ⟨j,hj,rfl⟩:=List.mem_iff_getElem.1 hx
            exact hall j hj (by omega)
           simp [num,tx,h1]
           rw [← hZ,ht]
           simp [num,tx]
theorem c1e:∀ (d g:Nat) (j:LJson),d≤5→R3 g j→f9 Tryz.prog 255 [.val (J9 j),.val (num ((d+1:Nat):Int))] (.ret (.val (.bool (V8 (d+1) j))) []) []
 | d,g,.mk k n t ns is,hd,h=>by
  by_cases hk:k=5∨k=6
  · have h':=h
    unfold R3 at h'
    rcases h' with ⟨rfl,_⟩ | ⟨rfl,_⟩ | ⟨rfl,_⟩ | ⟨rfl,_⟩ | ⟨rfl,rfl,hl,hkk,hs⟩
    · exact absurd hk (by decide)
    · exact absurd hk (by decide)
    · exact absurd hk (by decide)
    · exact absurd hk (by decide)
    · have e:V8 (d+1) (.mk k 0 [] ns is)=(decide (0 < d) && is.all (V8 d)):=by rw [V8,if_pos hk]
      rw [e]
      refine b5e d k ns is hd hl hkk (fun hd0 x hx=>?_)
      cases g with
      | zero=>exact hs.elim
      | succ g=>
       match d,hd0 with
       | d+1,_=>exact c1e d g x (by omega) (hs x hx)
  · have e:V8 (d+1) (.mk k n t ns is)=true:=by rw [V8,if_neg hk]
    rw [e]
    have h':=h
    unfold R3 at h'
    have hn:ns=[]∧is=[]:=by
     rcases h' with ⟨_,_,_,h1,h2⟩ | ⟨_,_,_,h1,h2⟩ | ⟨_,_,_,h1,h2⟩ | ⟨_,_,_,h1,h2⟩ | ⟨_,_,_,⟨h1,_⟩ | ⟨h1,_⟩,_⟩
     · exact ⟨h1,h2⟩
     · exact ⟨h1,h2⟩
     · exact ⟨h1,h2⟩
     · exact ⟨h1,h2⟩
     · exact absurd (.inl h1) hk
     · exact absurd (.inr h1) hk
    obtain ⟨rfl,rfl⟩:=hn
    exact b5f g k n t d hd h hk
end Go.Proofs
end
section
namespace Go.Proofs
open Go.PW Go.KP
attribute [local simp] RV.cells RV.one PV.cells PV.solid PV.one F7 a6 N5 N7 RV.ofCells elems PV.killL
variable [GF]
def c00 (t:Tx):Bool:=decide ((R1 t).2=0) && (decide ((R1 t).1.kind=6) && (V8 3 (R1 t).1 && decide (jtx (R1 t).1=t)))
theorem c3d (t:Tx) (ht:t.length≤1048576):f9 Tryz.prog 225 [.val (tx t)] (.ret (.val (.bool (c00 t))) []) []:=by
 refine F4 mixed ok225 rfl (fun _=>rfl) ?_
 have hr:=b3z t ht
 unfold c12 at hr
 have hg:(R1 t).1.kind=6→R3 4 (R1 t).1:=fun h=>by
  unfold R1 at h ⊢
  cases hj:a6p t with
  | ok x k=>exact a7z hj
  | err c=>rw [hj] at h;simp [LJson.kind] at h
 unfold ir225 c00
 obtain ⟨J,hJ⟩:∃ J,R1 t=J:=⟨_,rfl⟩
 rw [hJ] at hr hg ⊢
 obtain ⟨⟨k,n,tt,ns,is⟩,c⟩:=J
 simp only [LJson.kind] at hr hg ⊢
 rw [a8]
 rw [p7] at hr
 simp [b9,p6,K4,a7,b8,num,tx,p8]
 refine T0 rfl rfl (.inl rfl) hr ?_
 simp [num,tx]
 by_cases h0:c=0
 · by_cases h6:k=6
   · have hgd:=hg h6
     have h1:=c1e 2 4 _ (by omega) hgd
     have h2:=a7i 4 _ (by omega) hgd
     rw [p7] at h1 h2
     simp [num,tx,h0,h6]
     rw [h6] at h1 h2 ⊢
     refine d4 rfl rfl (.inl rfl) h1 ?_
     cases hd:V8 3 (.mk 6 n tt ns is) with
     | true=>
      simp [num,tx,h0,h6,hd]
      refine d4 rfl rfl (.inl rfl) h2 ?_
      simp [num,tx,h0,h6,hd,Q8]
     | false=>
      simp [num,tx,h0,h6,hd]
   · simp [num,tx,h0,h6]
 · simp [num,tx,h0]
def pOK (a b:Int) (t:Tx):Bool:=decide (1≤a∧a≤1000000) && (decide (0≤b∧b≤1000000) && (decide (t.length≤8000) && c00 t))
theorem c_l10OK (a b:Int) (t:Tx):f9 Tryz.prog 178 [.val (.agg [num a,num b,tx t])] (.ret (.val (.bool (pOK a b t))) []) []:=by
 refine F4 mixed ok178 rfl (fun _=>rfl) ?_
 unfold ir178 pOK
 rw [a8]
 simp [b9,p6,K4,a7,b8,num,tx,p8,b7]
 refine d4 rfl rfl (.inl rfl) (a4i .i64 a 1 1000000) ?_
 by_cases h1:1≤a∧a≤1000000
 · rw [decide_eq_true h1]
   simp [num,tx]
   refine d4 rfl rfl (.inl rfl) (a4i .i64 b 0 1000000) ?_
   by_cases h2:0≤b∧b≤1000000
   · rw [decide_eq_true h2]
     by_cases h3:t.length≤8000
     · have h3':(t.length:Int)≤8000:=by omega
       simp [num,tx,b7,h3,h3']
       refine d4 rfl rfl (.inl rfl) (c3d t (by omega)) ?_
       simp [num,tx,h3]
     · have h3':¬ (t.length:Int)≤8000:=by omega
       simp [num,tx,b7,h3,h3']
   · rw [decide_eq_false h2]
     simp [num,tx]
 · rw [decide_eq_false h1]
   simp [num,tx]
end Go.Proofs
end
section
namespace Go.Proofs
open Go.PW Go.KP
attribute [local simp] RV.cells RV.one PV.cells PV.solid PV.one F7 a6 N5 N7 RV.ofCells elems PV.killL
variable [GH]
theorem a69 (l:List LJson) (g:Nat) (c0:RV) (p:LJson→Bool) (hl:l.length < 1099511627776) (hg:fnB Tryz.prog g=true)
 (hp:∀ x∈l,f9 Tryz.prog g [.val (J9 x),.box [c0]] (.ret (.val (.bool (p x))) []) [[c0]]) :
 f9 Tryz.prog 235 [.val (.list 5 (l.map J9)),.fn g [.box [c0]]] (.ret (.val (num (a2o l p))) []) [[c0]]:=by
 refine a84 mixed ok235 rfl (fun _=>rfl) ?_
 unfold ir235
 rw [a8]
 simp [b9,p6,K4,a7,b8,K4,p6]
 refine P0 (X:=Nat) (fun i=>⟨Q0 [(0,.val (.list 5 (l.map J9))),(1,.fn g [.ptr 900 0]),(7,.val (num l.length)),(8,.val (num i))],P6 [(900,.box [.val c0])]⟩) (fun i=>i≤l.length∧∀ k (hk:k < i) (hk':k < l.length),p l[k]=false) (fun i=>l.length - i) 0 (Le.mk _ _ ?_ ?_) ?_ ?_
 · simp [upd,num]
 · simp
 · simp
 · rintro i ⟨hi,hne⟩
   simp [num]
   refine P4 (fun h1=>?_) (fun h1=>?_)
   · have hc:=hp l[i] (List.getElem_mem h1)
     obtain ⟨x,hx⟩:∃ x,l[i]=x:=⟨_,rfl⟩
     have hpx:p l[i]=p x:=by rw [hx]
     rw [hx] at hc
     obtain ⟨a1,a2,a3,a4,a5⟩:=x
     rw [p7] at hc
     simp [num,h1,hx,p7,tx,hg]
     refine a7f (ids:=[900]) rfl rfl (by simp) (by decide) (by simp [b2g,w9,F2,x5,F0,x6,o0,x4,F1,i6,z8,G0,G3,c8,m7,n0,f5,x7,n9,f8,E9,w8,n8,n7,C7,C8,T5,T6,Option.getD_some,Option.getD_none,B4,p9,l5,C4,l4,j8,C6,j9,C5,C3,C2,G7,u5,k8,C0,u3,k7,B9,B2,C1,u4,B7,j7,u2,B8,G9,G8,B3,B5,k6,B6,u6,k9,A2,i8,B1,B0,A9,G4,u0,j4,A7,t7,j3,A6,A0,A8,t8,A4,i7,t6,A5,G6,G5,A1,s9,j6,A3,u1,j5,I5,I4,J6,I6,J0,I8,I7,J5,I9,J1,J2,J3,J4,y6,y0,x9,K7,K8,K6,F3,q7,D2,u9,J8,o9,O4,L3,K3,M5,M7,M6,O5,O6,H7,H9,H8,I0,I1,M2,v7,M1,D3,D4,D5,v8,T8,E6,w7,O2,O3,H0,K9,L2,Option.map_some,Option.map_none,D6,w5,u7,l6,D0,D1,H2,H1,N2,N1,I3,E7,E8,I2,M8,M9,H3,l8,H4,l7,L6,E5,E4,f7,M4,N0,H6,L7,L9,L8,v6,y9,z7,z6,d6,M3,O8,O7,L4,H5,Q2,L5,l9,D8,D9,w6,D7,d9,s7,d8,s8,d7,J7,N3,N4,y7,y8,F6,F5,C9]) rfl hc ?_
     cases hpi:p (.mk a1 a2 a3 a4 a5) with
     | true=>
      simp [a8g,U9]
      rw [a2n h1 (by rw [hpx,hpi]) (fun k hk=>hne k hk (by omega))];rfl
     | false=>
      simp
      refine LoopNext.mk (i+1) ⟨by omega,fun k hk hk'=>?_⟩ (by omega) (Le.mk _ _ ?_ ?_)
      · by_cases e:k=i
        · subst e;rw [hpx,hpi]
        · exact hne k (by omega) hk'
      · simp [num];exact wrap_i64 (by omega) (by omega)
      · simp
   · have e:i=l.length:=by omega
     subst e
     simp [num,a8g,U9]
     rw [a3s (fun k hk=>hne k hk hk)]
theorem a4r (l:List LJson) (g:Nat) (c0:RV) (p:LJson→Bool) (hl:l.length < 1099511627776) (hg:fnB Tryz.prog g=true)
 (hp:∀ x∈l,f9 Tryz.prog g [.val (J9 x),.box [c0]] (.ret (.val (.bool (p x))) []) [[c0]]) :
 f9 Tryz.prog 187 [.val (.list 5 (l.map J9)),.fn g [.box [c0]]] (.ret (.val (.bool (l.any p))) []) [[c0]]:=by
 refine a84 mixed ok187 rfl (fun _=>rfl) ?_
 unfold ir187
 rw [a8]
 simp [b9,p6,K4,a7,b8,K4,p6]
 refine a7f (ids:=[900]) rfl rfl (by simp) (by decide) (by simp [b2g,w9,F2,x5,F0,x6,o0,x4,F1,i6,z8,G0,G3,c8,m7,n0,f5,x7,n9,f8,E9,w8,n8,n7,C7,C8,T5,T6,Option.getD_some,Option.getD_none,B4,p9,l5,C4,l4,j8,C6,j9,C5,C3,C2,G7,u5,k8,C0,u3,k7,B9,B2,C1,u4,B7,j7,u2,B8,G9,G8,B3,B5,k6,B6,u6,k9,A2,i8,B1,B0,A9,G4,u0,j4,A7,t7,j3,A6,A0,A8,t8,A4,i7,t6,A5,G6,G5,A1,s9,j6,A3,u1,j5,I5,I4,J6,I6,J0,I8,I7,J5,I9,J1,J2,J3,J4,y6,y0,x9,K7,K8,K6,F3,q7,D2,u9,J8,o9,O4,L3,K3,M5,M7,M6,O5,O6,H7,H9,H8,I0,I1,M2,v7,M1,D3,D4,D5,v8,T8,E6,w7,O2,O3,H0,K9,L2,Option.map_some,Option.map_none,D6,w5,u7,l6,D0,D1,H2,H1,N2,N1,I3,E7,E8,I2,M8,M9,H3,l8,H4,l7,L6,E5,E4,f7,M4,N0,H6,L7,L9,L8,v6,y9,z7,z6,d6,M3,O8,O7,L4,H5,Q2,L5,l9,D8,D9,w6,D7,d9,s7,d8,s8,d7,J7,N3,N4,y7,y8,F6,F5,C9]) rfl (a69 l g c0 p hl hg hp) ?_
 simp [num,a8g,U9]
 exact c0t l p
theorem a0w {K:Kx (PExit→St→Prop)} (d:Nat) (k n:Int) (t:Tx) (ns:List Tx) (is:List LJson) (hd:d≤5) (hl:is.length≤12) (hnl:ns.length≤12) (hnd:ns.Nodup) (hns:∀ s∈ns,s.length≤120)
 (hC:∀ x∈is,f9 Tryz.prog 124 [.val (J9 x),.val (num (d:Int))] (.ret (.val (.bool (V8 d x))) []) [])
 (st:St) (e2:st.env 2=.ptr 2 0) (e3:st.env 3=.ptr 3 0) (m2:st.mem 2=.box [.val (num k),.val (num n),.val (tx t),.val (.list 1 (ns.map tx)),.val (.list 5 (is.map J9))]) (m3:st.mem 3=.box [.val (num ((d:Int)+1))])
 (hK:∀ st':St,st'.env 4=.val (.bool (is.all (V8 d)))→K.k .ret st'):EC Tryz.prog ir124_from5 st (K:=K):=by
 unfold ir124_from5
 simp [e2,e3,m2,m3,num,tx]
 refine P0 (X:=Nat) (fun i=>⟨Q0 [(2,.ptr 2 0),(3,.ptr 3 0),(86,.val (.list 1 (ns.map tx))),(87,.val (num ns.length)),(88,.val (num i))],P6 [(2,.box [.val (num k),.val (num n),.val (tx t),.val (.list 1 (ns.map tx)),.val (.list 5 (is.map J9))]),(3,.box [.val (num ((d:Int)+1))])]⟩) (fun i=>i≤ns.length) (fun i=>ns.length - i) 0 (Le.mk _ _ ?_ ?_) (Nat.zero_le _) ?_
 · simp [e2,e3,num,tx,PV.kill]
 · simp [m2,m3,num,tx,MObj.kill,PV.kill,PV.killL]
 · intro i hi
   by_cases h1:i < ns.length
   · obtain ⟨u,hu⟩:∃ u,ns[i]=u:=⟨_,rfl⟩
     have hul:u.length≤120:=by rw [← hu];exact hns _ (List.getElem_mem h1)
     have hul':¬ (120:Int) < (u.length:Int):=by omega
     have hH:=a48 (ns.take i) u (by rw [List.length_take];omega)
     have hun:u∉ns.take i:=by
      rw [← hu]
      intro hm
      obtain ⟨q,hq,he⟩:=List.mem_iff_getElem.1 hm
      rw [List.length_take] at hq
      rw [List.getElem_take] at he
      have:=(List.getElem_inj hnd).1 he
      omega
     simp only [hun,decide_false,List.map_take] at hH
     have wi:IntKind.i64.wrap ((i:Int)+1)=((i+1:Nat):Int):=by rw [wrap_i64 (by omega) (by omega)];omega
     simp [num,tx,h1,hu,hul',b7]
     refine ⟨by omega,?_⟩
     refine d4 rfl rfl (.inl rfl) hH ?_
     simp [num,tx,h1,hu,hul',b7]
     refine LoopNext.mk (i+1) h1 (by omega) (Le.mk _ _ ?_ ?_)
     · simp [num,wi,tx]
     · simp [num,tx]
   · have hCF:=a4r is 188 (num ((d:Int)+1)) (fun x=>!V8 d x) (by omega) (by kernel_rfl) (fun x hx=>by
      have hc:=hC x hx
      obtain ⟨b,hb⟩:∃ b,V8 d x=b:=⟨_,rfl⟩
      rw [hb] at hc ⊢
      obtain ⟨a1,a2,a3,a4,a5⟩:=x
      refine a84 mixed ok188 rfl (fun _=>rfl) ?_
      have wd:IntKind.i64.wrap (d:Int)=(d:Int):=wrap_i64 (by omega) (by omega)
      unfold ir188
      rw [p7] at hc ⊢
      rw [a8]
      simp [b9,p6,K4,a7,b8,tx,num,K4,p6,wd]
      refine d4 rfl rfl (.inl rfl) hc ?_
      simp [num,tx,a8g,U9])
     simp [num,tx,h1]
     refine a7f (ids:=[3]) rfl rfl (by simp) (by decide) (by simp [b2g,w9,F2,x5,F0,x6,o0,x4,F1,i6,z8,G0,G3,c8,m7,n0,f5,x7,n9,f8,E9,w8,n8,n7,C7,C8,T5,T6,Option.getD_some,Option.getD_none,B4,p9,l5,C4,l4,j8,C6,j9,C5,C3,C2,G7,u5,k8,C0,u3,k7,B9,B2,C1,u4,B7,j7,u2,B8,G9,G8,B3,B5,k6,B6,u6,k9,A2,i8,B1,B0,A9,G4,u0,j4,A7,t7,j3,A6,A0,A8,t8,A4,i7,t6,A5,G6,G5,A1,s9,j6,A3,u1,j5,I5,I4,J6,I6,J0,I8,I7,J5,I9,J1,J2,J3,J4,y6,y0,x9,K7,K8,K6,F3,q7,D2,u9,J8,o9,O4,L3,K3,M5,M7,M6,O5,O6,H7,H9,H8,I0,I1,M2,v7,M1,D3,D4,D5,v8,T8,E6,w7,O2,O3,H0,K9,L2,Option.map_some,Option.map_none,D6,w5,u7,l6,D0,D1,H2,H1,N2,N1,I3,E7,E8,I2,M8,M9,H3,l8,H4,l7,L6,E5,E4,f7,M4,N0,H6,L7,L9,L8,v6,y9,z7,z6,d6,M3,O8,O7,L4,H5,Q2,L5,l9,D8,D9,w6,D7,d9,s7,d8,s8,d7,J7,N3,N4,y7,y8,F6,F5,C9,tx,num]) rfl hCF ?_
     simp [num,tx]
     refine hK _ ?_
     simp [List.all_eq_not_any_not]
theorem b47 (d g:Nat) (k n:Int) (t:Tx) (hd:d≤5) (h:R3 g (.mk k n t [] [])) (hk:¬ (k=5∨k=6)):f9 Tryz.prog 124 [.val (J9 (.mk k n t [] [])),.val (num ((d+1:Nat):Int))] (.ret (.val (.bool true)) []) []:=by
 unfold R3 at h
 refine F4 mixed ok124 rfl (fun _=>rfl) ?_
 have hd1:¬ (d:Int)+1=0:=by omega
 unfold ir124
 rw [a8,p7]
 rcases h with ⟨rfl,rfl,rfl,_,_⟩ | ⟨rfl,hb,rfl,_,_⟩ | ⟨rfl,h1,rfl,_,_⟩ | ⟨rfl,rfl,h1,_,_⟩ | ⟨rfl,rfl,hl,hkk0,hs0⟩
 · simp [b9,p6,K4,a7,b8,tx,num,p8,Q8,hd1]
   refine a0w d 1 0 [] [] [] hd (by simp) (by simp) (by simp) (by simp) (by simp) _ ?_ ?_ ?_ ?_ (fun st' h4=>by simp [h4])
   all_goals simp [num,tx,p8]
 · simp [b9,p6,K4,a7,b8,tx,num,p8,Q8,hd1]
   refine d4 rfl rfl (.inl rfl) (Y1 n 0 1) ?_
   have h01:0≤n∧n≤1:=by omega
   simp [tx,num,p8,Q8,hd1,h01]
   refine a0w d 2 n [] [] [] hd (by simp) (by simp) (by simp) (by simp) (by simp) _ ?_ ?_ ?_ ?_ (fun st' h4=>by simp [h4])
   all_goals simp [num,tx,p8]
 · simp [b9,p6,K4,a7,b8,tx,num,p8,Q8,hd1]
   refine d4 rfl rfl (.inl rfl) (Y1 n (-999999999) 999999999) ?_
   simp [tx,num,p8,Q8,hd1,h1]
   refine a0w d 3 n [] [] [] hd (by simp) (by simp) (by simp) (by simp) (by simp) _ ?_ ?_ ?_ ?_ (fun st' h4=>by simp [h4])
   all_goals simp [num,tx,p8]
 · have h2:(t.length:Int)≤120:=by omega
   simp [b9,p6,K4,a7,b8,tx,num,p8,Q8,b7,hd1,h2]
   refine a0w d 4 0 t [] [] hd (by simp) (by simp) (by simp) (by simp) (by simp) _ ?_ ?_ ?_ ?_ (fun st' h4=>by simp [h4])
   all_goals simp [num,tx,p8]
 · rcases hkk0 with ⟨h,_⟩ | ⟨h,_⟩<;>exact absurd (by simp [h]) hk
theorem b46 (d:Nat) (k:Int) (ns:List Tx) (is:List LJson) (hd:d≤5) (hl:is.length≤12) (hk:k=5∧ns=[]∨k=6∧ns.length=is.length∧ns.Nodup∧∀ s∈ns,s.length≤120)
 (hCs:0 < d→∀ x∈is,f9 Tryz.prog 124 [.val (J9 x),.val (num (d:Int))] (.ret (.val (.bool (V8 d x))) []) []):f9 Tryz.prog 124 [.val (J9 (.mk k 0 [] ns is)),.val (num ((d+1:Nat):Int))] (.ret (.val (.bool (decide (0 < d) && is.all (V8 d)))) []) []:=by
 refine F4 mixed ok124 rfl (fun _=>rfl) ?_
 have hd1:¬ (d:Int)+1=0:=by omega
 have hl':(is.length:Int)≤12:=by omega
 unfold ir124
 rw [a8,p7]
 rcases Nat.eq_zero_or_pos d with rfl | hd0
 · rcases hk with ⟨rfl,rfl⟩ | ⟨rfl,hn,hnd,hns⟩
   · simp [b9,p6,K4,a7,b8,tx,num,p8,Q8,hl']
   · simp [b9,p6,K4,a7,b8,tx,num,p8,Q8,hl']
 · have hd2:¬ (d:Int)+1≤1:=by omega
   have hd3:(1:Int) < (d:Int)+1:=by omega
   rw [decide_eq_true hd0,Bool.true_and]
   rcases hk with ⟨rfl,rfl⟩ | ⟨rfl,hn,hnd,hns⟩
   · simp [b9,p6,K4,a7,b8,tx,num,p8,Q8,hl',hd1,hd2,hd3,hd0]
     refine a0w d 5 0 [] [] is hd hl (by simp) (by simp) (by simp) (hCs hd0) _ ?_ ?_ ?_ ?_ (fun st' h4=>by simp [h4])
     all_goals simp [num,tx,p8]
   · have hnl:(ns.length:Int)=(is.length:Int):=by omega
     simp [b9,p6,K4,a7,b8,tx,num,p8,Q8,hl',hd1,hd2,hd3,hd0,hnl]
     refine a0w d 6 0 [] ns is hd hl (by omega) hnd hns (hCs hd0) _ ?_ ?_ ?_ ?_ (fun st' h4=>by simp [h4])
     all_goals simp [num,tx,p8]
theorem c06:∀ (d g:Nat) (j:LJson),d≤5→R3 g j→f9 Tryz.prog 124 [.val (J9 j),.val (num ((d+1:Nat):Int))] (.ret (.val (.bool (V8 (d+1) j))) []) []
 | d,g,.mk k n t ns is,hd,h=>by
  by_cases hk:k=5∨k=6
  · have h':=h
    unfold R3 at h'
    rcases h' with ⟨rfl,_⟩ | ⟨rfl,_⟩ | ⟨rfl,_⟩ | ⟨rfl,_⟩ | ⟨rfl,rfl,hl,hkk,hs⟩
    · exact absurd hk (by decide)
    · exact absurd hk (by decide)
    · exact absurd hk (by decide)
    · exact absurd hk (by decide)
    · have e:V8 (d+1) (.mk k 0 [] ns is)=(decide (0 < d) && is.all (V8 d)):=by rw [V8,if_pos hk]
      rw [e]
      refine b46 d k ns is hd hl hkk (fun hd0 x hx=>?_)
      cases g with
      | zero=>exact hs.elim
      | succ g=>
       match d,hd0 with
       | d+1,_=>exact c06 d g x (by omega) (hs x hx)
  · have e:V8 (d+1) (.mk k n t ns is)=true:=by rw [V8,if_neg hk]
    rw [e]
    have h':=h
    unfold R3 at h'
    have hn:ns=[]∧is=[]:=by
     rcases h' with ⟨_,_,_,h1,h2⟩ | ⟨_,_,_,h1,h2⟩ | ⟨_,_,_,h1,h2⟩ | ⟨_,_,_,h1,h2⟩ | ⟨_,_,_,⟨h1,_⟩ | ⟨h1,_⟩,_⟩
     · exact ⟨h1,h2⟩
     · exact ⟨h1,h2⟩
     · exact ⟨h1,h2⟩
     · exact ⟨h1,h2⟩
     · exact absurd (.inl h1) hk
     · exact absurd (.inr h1) hk
    obtain ⟨rfl,rfl⟩:=hn
    exact b47 d g k n t hd h hk
end Go.Proofs
end
section
namespace Go.Proofs
open Go.PW Go.KP
attribute [local simp] RV.cells RV.one PV.cells PV.solid PV.one F7 a6 N5 N7 RV.ofCells elems PV.killL
variable [GH]
theorem b9h (a b:Int) (t:Tx):f9 Tryz.prog 61 [.val (.agg [num a,num b,tx t])] (.ret (.val (.bool (pOK a b t))) []) []:=by
 refine F4 mixed ok61 rfl (fun _=>rfl) ?_
 unfold ir61 pOK
 rw [a8]
 simp [b9,p6,K4,a7,b8,num,tx,p8]
 refine d4 rfl rfl (.inl rfl) (Y1 a 1 1000000) ?_
 by_cases h1:1≤a∧a≤1000000
 · rw [decide_eq_true h1]
   simp [num,tx]
   refine d4 rfl rfl (.inl rfl) (i_isNow b) ?_
   by_cases h2:0≤b∧b≤1000000
   · rw [decide_eq_true h2]
     by_cases h3:t.length≤8000
     · have h3':¬ (8000:Int) < (t.length:Int):=by omega
       have hr:=b1k t (by omega)
       have hg:(R1 t).1.kind=6→R3 4 (R1 t).1:=fun h=>by
        unfold R1 at h ⊢
        cases hj:a6p t with
        | ok x k=>exact a7z hj
        | err c=>rw [hj] at h;simp [LJson.kind] at h
       unfold rdP at hr
       unfold c00
       obtain ⟨J,hJ⟩:∃ J,R1 t=J:=⟨_,rfl⟩
       rw [hJ] at hr hg ⊢
       obtain ⟨⟨k,n,tt,ns,is⟩,c⟩:=J
       simp only [LJson.kind] at hr hg ⊢
       rw [p7] at hr
       simp [num,tx,b7,h3,h3']
       refine T0 rfl rfl (.inl rfl) hr ?_
       simp [num,tx]
       by_cases h0:c=0
       · by_cases h6:k=6
         · have hgd:=hg h6
           have q1:=c06 2 4 _ (by omega) hgd
           have q2:=b9f 4 _ (by omega) hgd
           rw [p7] at q1 q2
           simp [num,tx,h0,h6,LJson.kind]
           rw [h6] at q1 q2 ⊢
           refine R9 rfl rfl (.inl rfl) q1 ?_
           cases hd:V8 3 (.mk 6 n tt ns is) with
           | true=>
            simp [num,tx,h0,h6,hd,LJson.kind]
            refine R9 rfl rfl (.inl rfl) q2 ?_
            simp [num,tx,h0,h6,hd,Q8,h3,LJson.kind]
           | false=>
            simp [num,tx,h0,h6,hd,LJson.kind]
         · simp [num,tx,h0,h6,LJson.kind]
       · simp [num,tx,h0]
     · have h3':(8000:Int) < (t.length:Int):=by omega
       simp [num,tx,b7,h3,h3']
   · rw [decide_eq_false h2]
     simp [num,tx]
 · rw [decide_eq_false h1]
   simp [num,tx]
def a8j:Tx:=[97,103,101]
def a2i:Tx:=[98,111,100,121]
def wId:Tx:=[105,100]
def b4i (x:LJson) (n:Tx):LJson×Bool:=Y4 x.names x.items n
def c4c (x:LJson):Bool:=(b4i x a8j).2 && ((b4i x a2i).2 && ((b4i x wId).2 && (decide (x.names.length=3) && (decide ((b4i x a8j).1.kind=3) && (decide ((b4i x wId).1.kind=3) && decide ((b4i x a2i).1.kind=6))))))
def b8u (x:LJson):LParcel:=⟨(b4i x wId).1.num,(b4i x a8j).1.num,jtx (b4i x a2i).1⟩
def b3c (x:LJson):Bool:=pOK (b8u x).id (b8u x).age (b8u x).body
def pOf (x:LJson):LParcel×Bool:=if c4c x then (b8u x,b3c x) else (⟨0,0,[]⟩,false)
theorem a45 {d:Nat} {k n:Int} {t:Tx} {ns:List Tx} {is:List LJson} (h:R3 d (.mk k n t ns is)):ns=[]∨k=6∧ns.length=is.length∧is.length≤12:=by
 unfold R3 at h
 rcases h with ⟨_,_,_,h1,h2⟩ | ⟨_,_,_,h1,h2⟩ | ⟨_,_,_,h1,h2⟩ | ⟨_,_,_,h1,h2⟩ | ⟨_,_,hl,⟨_,h1⟩ | ⟨h0,h1,_⟩,_⟩
 · exact .inl h1
 · exact .inl h1
 · exact .inl h1
 · exact .inl h1
 · exact .inl h1
 · exact .inr ⟨h0,h1,hl⟩
theorem a66 {d:Nat} {k n:Int} {t:Tx} {ns:List Tx} {is:List LJson} (h:R3 (d+1) (.mk k n t ns is)):∀ x∈is,R3 d x:=by
 unfold R3 at h
 rcases h with ⟨_,_,_,h1,h2⟩ | ⟨_,_,_,h1,h2⟩ | ⟨_,_,_,h1,h2⟩ | ⟨_,_,_,h1,h2⟩ | ⟨_,_,hl,_,hs⟩
 · subst h2;simp
 · subst h2;simp
 · subst h2;simp
 · subst h2;simp
 · exact hs
theorem b3k {d:Nat} {k n:Int} {t:Tx} {ns:List Tx} {is:List LJson} (w:Tx) (h:R3 (d+1) (.mk k n t ns is)):Y4 ns is w=(a43,false)∨∃ x,Y4 ns is w=(x,true)∧R3 d x:=by
 rcases a54 ns (fun x=>decide (x=w)) with ⟨k1,k2⟩ | ⟨i,hi,k1,k2⟩
 · left;unfold Y4;rw [k1];simp
 · right
   have hx:i < is.length:=by
    rcases a45 h with rfl | ⟨_,h2,_⟩
    · simp at hi
    · omega
   refine ⟨is[i],?_,a66 h _ (List.getElem_mem hx)⟩
   unfold Y4;rw [k1,if_neg (by omega)];simp [hx]
theorem b7u (x:LJson) (h:R3 3 x):f9 Tryz.prog 117 [.val (J9 x)] (.ret (.tup [.val (N6 (pOf x).1),.val (.bool (pOf x).2)]) []) []:=by
 obtain ⟨k,m,t,ns,xs⟩:=x
 have hnm:=a45 h
 have hnl:ns.length≤1048576:=by rcases hnm with rfl | ⟨_,h1,h2⟩;simp;omega
 have hnx:ns=[]∨ns.length=xs.length:=hnm.imp id fun h=>h.2.1
 have hA:=a5m k m t ns xs a8j hnl hnx
 have hB:=a5m k m t ns xs a2i hnl hnx
 have hI:=a5m k m t ns xs wId hnl hnx
 have gB:=b3k a2i h
 have hT:c4c (.mk k m t ns xs)=((Y4 ns xs a8j).2 && ((Y4 ns xs a2i).2 && ((Y4 ns xs wId).2 && (decide (ns.length=3) && (decide ((Y4 ns xs a8j).1.kind=3) && (decide ((Y4 ns xs wId).1.kind=3) && decide ((Y4 ns xs a2i).1.kind=6))))))):=rfl
 have hO:b8u (.mk k m t ns xs)=⟨(Y4 ns xs wId).1.num,(Y4 ns xs a8j).1.num,jtx (Y4 ns xs a2i).1⟩:=rfl
 unfold a9l at hA hB hI
 obtain ⟨Z,hZ⟩:∃ Z,a4s [.c 2 true 3,.t 3] (.tup [.val (N6 (pOf (.mk k m t ns xs)).1),.val (.bool (pOf (.mk k m t ns xs)).2)])=Z:=⟨_,rfl⟩
 unfold pOf b3c at hZ
 rw [hT,hO] at hZ
 refine F4 mixed ok117 rfl (fun _=>rfl) ?_
 unfold pOf b3c
 rw [hT,hO,hZ]
 generalize Y4 ns xs a8j=RA at *
 generalize Y4 ns xs a2i=RB at *
 generalize Y4 ns xs wId=RI at *
 obtain ⟨⟨a1,a2,a3,a4,a5⟩,ab⟩:=RA
 obtain ⟨⟨b1,b2,b3,b4,b5⟩,bb⟩:=RB
 obtain ⟨⟨i1,i2,i3,i4,i5⟩,ib⟩:=RI
 simp only [p7] at hA hB hI
 obtain ⟨T,hTT⟩:∃ T,(ab && (bb && (ib && (decide (ns.length=3) && (decide (a1=3) && (decide (i1=3) && decide (b1=6)))))))=T:=⟨_,rfl⟩
 replace hZ:a4s [.c 2 true 3,.t 3] (.tup [.val (N6 (if T=true then ((⟨i2,a2,jtx (.mk b1 b2 b3 b4 b5)⟩:LParcel),pOK i2 a2 (jtx (.mk b1 b2 b3 b4 b5))) else (⟨0,0,[]⟩,false)).1),.val (.bool (if T=true then ((⟨i2,a2,jtx (.mk b1 b2 b3 b4 b5)⟩:LParcel),pOK i2 a2 (jtx (.mk b1 b2 b3 b4 b5))) else (⟨0,0,[]⟩,false)).2)])=Z:=by rw [← hTT];exact hZ
 unfold ir117
 rw [a8,p7]
 simp [b9,p6,K4,a7,b8,num,tx,p8,a6]
 refine T0 rfl rfl (.inl rfl) hA ?_
 simp [num,tx,a6]
 refine T0 rfl rfl (.inl rfl) hB ?_
 simp [num,tx,a6]
 refine T0 rfl rfl (.inl rfl) hI ?_
 cases ab with
 | false=>
  simp [num,tx,a6]
  obtain rfl:T=false:=by rw [← hTT];simp
  rw [← hZ]
  simp [num,tx,a6,N6,P2,R6,X5,St.fin,St.freeze,PV.frzL,PV.frz,PV.plL,PV.pl,O1,okId,MObj.pl,N5,p8]
 | true=>
  cases bb with
  | false=>
   simp [num,tx,a6]
   obtain rfl:T=false:=by rw [← hTT];simp
   rw [← hZ]
   simp [num,tx,a6,N6,P2,R6,X5,St.fin,St.freeze,PV.frzL,PV.frz,PV.plL,PV.pl,O1,okId,MObj.pl,N5,p8]
  | true=>
   cases ib with
   | false=>
    simp [num,tx,a6]
    obtain rfl:T=false:=by rw [← hTT];simp
    rw [← hZ]
    simp [num,tx,a6,N6,P2,R6,X5,St.fin,St.freeze,PV.frzL,PV.frz,PV.plL,PV.pl,O1,okId,MObj.pl,N5,p8]
   | true=>
    by_cases h4:ns.length=3
    · by_cases h5:a1=3
      · by_cases h6:i1=3
        · by_cases h7:b1=6
          · subst h7
            have hgB:R3 2 (.mk 6 b2 b3 b4 b5):=by
             rcases gB with h | ⟨x,h,hg⟩
             · cases h
             · cases h;exact hg
            have qT:=a7i 2 _ (by omega) hgB
            have qO:=c_l10OK i2 a2 (jtx (.mk 6 b2 b3 b4 b5))
            rw [p7] at qT
            simp [num,tx,a6,h4,h5,h6]
            obtain rfl:T=true:=by rw [← hTT];simp [h4,h5,h6]
            constructor
            all_goals
             refine d4 rfl rfl (.inl rfl) qT ?_
             simp [num,tx,a6]
             refine R9 rfl rfl (.inl rfl) qO ?_
             simp [num,tx,a6]
             rw [← hZ]
             simp [num,tx,a6,N6,P2,R6,X5,St.fin,St.freeze,PV.frzL,PV.frz,PV.plL,PV.pl,O1,okId,MObj.pl,N5,p8]
          · simp [num,tx,a6,h4,h5,h6,h7]
            obtain rfl:T=false:=by rw [← hTT];simp [h4,h5,h6,h7]
            rw [← hZ]
            simp [num,tx,a6,N6,P2,R6,X5,St.fin,St.freeze,PV.frzL,PV.frz,PV.plL,PV.pl,O1,okId,MObj.pl,N5,p8]
        · simp [num,tx,a6,h4,h5,h6]
          obtain rfl:T=false:=by rw [← hTT];simp [h4,h5,h6]
          rw [← hZ]
          simp [num,tx,a6,N6,P2,R6,X5,St.fin,St.freeze,PV.frzL,PV.frz,PV.plL,PV.pl,O1,okId,MObj.pl,N5,p8]
      · simp [num,tx,a6,h4,h5]
        obtain rfl:T=false:=by rw [← hTT];simp [h4,h5]
        rw [← hZ]
        simp [num,tx,a6,N6,P2,R6,X5,St.fin,St.freeze,PV.frzL,PV.frz,PV.plL,PV.pl,O1,okId,MObj.pl,N5,p8]
    · have h4':¬ (ns.length:Int)=3:=by omega
      simp [num,tx,a6,h4']
      obtain rfl:T=false:=by rw [← hTT];simp [h4]
      rw [← hZ]
      simp [num,tx,a6,N6,P2,R6,X5,St.fin,St.freeze,PV.frzL,PV.frz,PV.plL,PV.pl,O1,okId,MObj.pl,N5,p8]
def rp (J:LJson×Int):List LParcel×Int:=if J.2≠0 then ([],J.2) else if J.1.kind≠5 then ([],9) else if 3 < J.1.items.length then ([],6) else if J.1.items.all (fun x=>(pOf x).2) then (J.1.items.map fun x=>(pOf x).1,0) else ([],3)
def rpP (t:Tx):PV:=.tup [.val (.list 3 ((rp (R1 t)).1.map N6)),.val (num (rp (R1 t)).2)]
theorem c3c (t:Tx) (ht:t.length≤1048576):f9 Tryz.prog 57 [.val (tx t)] (.ret (rpP t) []) []:=by
 refine F4 mixed ok57 rfl (fun _=>rfl) ?_
 have hr:=b3z t ht
 unfold c12 at hr
 have hg:(R1 t).1.kind=5→R3 4 (R1 t).1:=fun h=>by
  unfold R1 at h ⊢
  cases hj:a6p t with
  | ok x k=>exact a7z hj
  | err c=>rw [hj] at h;simp [LJson.kind] at h
 unfold rpP
 obtain ⟨J,hJ⟩:∃ J,R1 t=J:=⟨_,rfl⟩
 rw [hJ] at hr hg ⊢
 obtain ⟨⟨k,n,tt,ns,is⟩,c⟩:=J
 simp only [LJson.kind,LJson.items] at hr hg
 obtain ⟨R,hR⟩:∃ R,rp (.mk k n tt ns is,c)=R:=⟨_,rfl⟩
 rw [hR]
 obtain ⟨Z,hZ⟩:∃ Z,a4s [.t 2,.t 3] (.tup [.val (.list 3 (R.1.map N6)),.val (num R.2)])=Z:=⟨_,rfl⟩
 rw [hZ]
 rw [p7] at hr
 unfold ir57
 rw [a8]
 simp [b9,p6,K4,a7,b8,num,tx,p8]
 refine T0 rfl rfl (.inl rfl) hr ?_
 simp [num,tx]
 by_cases h0:c=0
 · by_cases h5:k=5
   · by_cases h3:3 < is.length
     · have h3':(3:Int) < (is.length:Int):=by omega
       obtain rfl:R=([],6):=by rw [← hR];simp [rp,h0,h5,h3,LJson.kind,LJson.items]
       simp [num,tx,h0,h5,h3,h3']
       rw [← hZ]
       simp [num,O1,PV.pl]
     · have h3':¬ (3:Int) < (is.length:Int):=by omega
       have hgd:=a66 (hg h5)
       have hRR:R=if is.all (fun x=>(pOf x).2)=true then (is.map fun x=>(pOf x).1,(0:Int)) else ([],3):=by rw [← hR];simp [rp,h0,h5,h3,LJson.kind,LJson.items]
       simp [num,tx,h0,h5,h3,h3']
       refine P0 (X:=Nat) (fun i=>⟨Q0 [(4,.ptr 4 0),(6,.own 28),(7,.val (num (i:Int)))],P6 [(4,.box [.val (num 5),.val (num n),.val (tx tt),.val (.list 1 (ns.map tx)),.val (.list 5 (is.map J9))]),(28,.row 94 3 ((is.take i).map fun x=>N6 (pOf x).1))]⟩)
        (fun i=>i≤is.length∧∀ j (h:j < is.length),j < i→(pOf is[j]).2=true) (fun i=>is.length - i) 0 (Le.mk _ _ ?_ ?_) ⟨Nat.zero_le _,fun j _ h=>absurd h (Nat.not_lt_zero _)⟩ ?_
       · simp [num,tx,PV.kill]
       · simp [num,tx,MObj.kill,PV.kill,PV.killL,p8]
       · rintro i ⟨hi,hall⟩
         have wi:IntKind.i64.wrap ((i:Int)+1)=((i+1:Nat):Int):=by rw [wrap_i64 (by omega) (by omega)];omega
         by_cases h1:i < is.length
         · have hC:=b7u is[i] (hgd _ (List.getElem_mem h1))
           obtain ⟨y,hy⟩:∃ y,is[i]=y:=⟨_,rfl⟩
           obtain ⟨⟨q,b⟩,hq⟩:∃ q,pOf is[i]=q:=⟨_,rfl⟩
           have hst:(is.take (i+1)).map (fun x=>N6 (pOf x).1)=(is.take i).map (fun x=>N6 (pOf x).1)++[N6 q]:=by
            rw [List.take_add_one,List.getElem?_eq_getElem h1,List.map_append]
            simp [hq]
           rw [hq,hy] at hC
           obtain ⟨a1,a2,a3,a4,a5⟩:=y
           rw [p7] at hC
           unfold N6 at hC
           simp [num,tx,h1,hy,p7]
           refine T0 rfl rfl (.inl rfl) hC ?_
           cases b with
           | true=>
            simp [num,tx,h1,hy,elems,a6,RV.one,F7]
            refine ⟨by omega,by omega,?_⟩
            refine LoopNext.mk (i+1) ⟨h1,fun j hj hji=>?_⟩ (by omega) (Le.mk _ _ ?_ ?_)
            · by_cases e:j=i
              · subst e;rw [hq]
              · exact hall j hj (by omega)
            · simp [num,wi,tx]
            · rw [hst];simp [num,tx,N6]
           | false=>
            simp [num,tx,h1,hy]
            have hf:is.all (fun x=>(pOf x).2)=false:=by
             rw [Bool.eq_false_iff];intro ha
             have:=List.all_eq_true.1 ha is[i] (List.getElem_mem h1)
             rw [hq] at this;cases this
            rw [← hZ,hRR,hf]
            simp [num,tx,O1,PV.pl]
         · have ht:is.all (fun x=>(pOf x).2)=true:=by
            rw [List.all_eq_true]
            intro x hx
            obtain ⟨j,hj,rfl⟩:=List.mem_iff_getElem.1 hx
            exact hall j hj (by omega)
           have e:i=is.length:=by omega
           subst e
           simp [num,tx]
           rw [← hZ,hRR,ht]
           simp [num,tx,O1,PV.pl,Function.comp_def]
   · obtain rfl:R=([],9):=by rw [← hR];simp [rp,h0,h5,LJson.kind,LJson.items]
     simp [num,tx,h0,h5]
     rw [← hZ]
     simp [num,O1,PV.pl]
 · obtain rfl:R=([],c):=by rw [← hR];simp [rp,h0]
   simp [num,tx,h0]
   rw [← hZ]
   simp [num,O1,PV.pl]
end Go.Proofs
end
section
namespace Go.Proofs
open Go.PW Go.KP
attribute [local simp] RV.cells RV.one PV.cells PV.solid PV.one F7 a6 N5 N7 RV.ofCells elems PV.killL
variable [GH]
def rpR (t:Tx):List LParcel:=(rp (a4x t)).1
def rpC (t:Tx):Int:=(rp (a4x t)).2
theorem b63:f9 Tryz.prog 60 [.val (J9 a43)] (.ret (.val (tx jnull)) []) []:=by
 refine F4 mixed ok60 rfl (fun _=>rfl) ?_
 unfold ir60 a43
 rw [a8,p7]
 simp [b9,p6,K4,a7,b8,tx,num,jnull,p8]
theorem b2v (t:Tx):f9 Tryz.prog 12 [.val (tx t)] (.ret (.tup [.own 0,.val (num (rpC t))]) [⟨94,3,(rpR t).map N6⟩]) []:=by
 have hr:=b9g t
 have hg:(a4x t).1.kind=5→R3 4 (a4x t).1:=fun h=>by
  unfold a4x at h ⊢
  split at h
  · rename_i h0
    rw [if_pos h0]
    unfold R1 at h ⊢
    cases hj:a6p t with
    | ok x k=>exact a7z hj
    | err c=>rw [hj] at h;simp [LJson.kind] at h
  · simp [LJson.kind] at h
 unfold b8j at hr
 unfold rpR rpC
 obtain ⟨J,hJ⟩:∃ J,a4x t=J:=⟨_,rfl⟩
 rw [hJ] at hr hg ⊢
 obtain ⟨⟨k,n,tt,ns,is⟩,c⟩:=J
 simp only [LJson.kind,LJson.items] at hr hg
 obtain ⟨R,hR⟩:∃ R,rp (.mk k n tt ns is,c)=R:=⟨_,rfl⟩
 rw [hR]
 refine a8d (mk:=fun i=>.tup [.own i,.val (num R.2)]) mixed ok12 rfl (fun _=>rfl) ?_
 obtain ⟨Z,hZ⟩:∃ Z,c6a [.t 2,.t 3] (fun i=>.tup [.own i,.val (num R.2)]) 94 3 (R.1.map N6)=Z:=⟨_,rfl⟩
 rw [hZ]
 rw [p7] at hr
 unfold ir12
 rw [a8]
 simp [b9,p6,K4,a7,b8,num,tx,p8]
 refine T0 rfl rfl (.inl rfl) hr ?_
 simp [num,tx]
 by_cases h0:c=0
 · by_cases h5:k=5
   · by_cases h3:3 < is.length
     · have h3':(3:Int) < (is.length:Int):=by omega
       obtain rfl:R=([],6):=by rw [← hR];simp [rp,h0,h5,h3,LJson.kind,LJson.items]
       simp [num,tx,h0,h5,h3,h3']
       rw [← hZ]
       simp [num]
       exact V3 3 600 (by omega) (.inl (by omega)) (by omega) (by simp) (by simp)
     · have h3':¬ (3:Int) < (is.length:Int):=by omega
       have hgd:=a66 (hg h5)
       have hRR:R=if is.all (fun x=>(pOf x).2)=true then (is.map fun x=>(pOf x).1,(0:Int)) else ([],3):=by rw [← hR];simp [rp,h0,h5,h3,LJson.kind,LJson.items]
       simp [num,tx,h0,h5,h3,h3']
       refine P0 (X:=Nat) (fun i=>⟨Q0 [(6,.own 34),(36,.val (.list 5 (is.map J9))),(37,.val (num is.length)),(38,.val (num (i:Int)))],P6 [(34,.row 94 3 ((is.take i).map fun x=>N6 (pOf x).1))]⟩)
        (fun i=>i≤is.length∧∀ j (h:j < is.length),j < i→(pOf is[j]).2=true) (fun i=>is.length - i) 0 (Le.mk _ _ ?_ ?_) ⟨Nat.zero_le _,fun j _ h=>absurd h (Nat.not_lt_zero _)⟩ ?_
       · simp [num,tx,PV.kill]
       · simp [num,tx,MObj.kill,PV.kill,PV.killL,p8]
       · rintro i ⟨hi,hall⟩
         have wi:IntKind.i64.wrap ((i:Int)+1)=((i+1:Nat):Int):=by rw [wrap_i64 (by omega) (by omega)];omega
         by_cases h1:i < is.length
         · obtain ⟨y,hy⟩:∃ y,is[i]=y:=⟨_,rfl⟩
           have hgy:R3 3 y:=by rw [← hy];exact hgd _ (List.getElem_mem h1)
           have hf:(pOf y).2=false→is.all (fun x=>(pOf x).2)=false:=fun hp=>by
            rw [Bool.eq_false_iff];intro ha
            have:=List.all_eq_true.1 ha is[i] (List.getElem_mem h1)
            rw [hy,hp] at this;cases this
           have hst:(is.take (i+1)).map (fun x=>N6 (pOf x).1)=(is.take i).map (fun x=>N6 (pOf x).1)++[N6 (pOf y).1]:=by
            rw [List.take_add_one,List.getElem?_eq_getElem h1,List.map_append]
            simp [hy]
           have hyy:(pOf is[i]).2=(pOf y).2:=by rw [hy]
           obtain ⟨y1,y2,y3,y4,y5⟩:=y
           have hnm:=a45 hgy
           have hnl:y4.length < 1099511627776:=by rcases hnm with rfl | ⟨_,h1,h2⟩;simp;omega
           have hnx:∀ (w:Tx) (i:Nat),a2o y4 (fun x=>decide (x=w))=i→i < y5.length:=fun w i hi=>by
            rcases a54 y4 (fun x=>decide (x=w)) with ⟨k1,k2⟩ | ⟨q,hq,k1,k2⟩
            · omega
            · rcases hnm with rfl | ⟨_,h1,h2⟩
              · simp at hq
              · omega
           have hA:=b1l y1 y2 y3 y4 y5 a8j hnl (hnx _)
           have hB:=b1l y1 y2 y3 y4 y5 a2i hnl (hnx _)
           have hI:=b1l y1 y2 y3 y4 y5 wId hnl (hnx _)
           have gB:=b3k a2i hgy
           have hT:c4c (.mk y1 y2 y3 y4 y5)=((Y4 y4 y5 a8j).2 && ((Y4 y4 y5 a2i).2 && ((Y4 y4 y5 wId).2 && (decide (y4.length=3) && (decide ((Y4 y4 y5 a8j).1.kind=3) && (decide ((Y4 y4 y5 wId).1.kind=3) && decide ((Y4 y4 y5 a2i).1.kind=6))))))):=rfl
           have hO:b8u (.mk y1 y2 y3 y4 y5)=⟨(Y4 y4 y5 wId).1.num,(Y4 y4 y5 a8j).1.num,jtx (Y4 y4 y5 a2i).1⟩:=rfl
           have h63:y1=6→(y5.length=3↔y4.length=3):=fun h=>by
            unfold R3 at hgy
            rcases hgy with ⟨e,_⟩ | ⟨e,_⟩ | ⟨e,_⟩ | ⟨e,_⟩ | ⟨_,_,_,⟨e,_⟩ | ⟨_,e,_⟩,_⟩<;>omega
           have h43:y4.length=3→y1=6:=fun h=>by
            rcases hnm with rfl | ⟨e,_⟩
            · simp at h
            · exact e
           have hpf:(pOf (.mk y1 y2 y3 y4 y5))=if c4c (.mk y1 y2 y3 y4 y5) then (b8u (.mk y1 y2 y3 y4 y5),b3c (.mk y1 y2 y3 y4 y5)) else (⟨0,0,[]⟩,false):=rfl
           unfold b3c at hpf
           rw [hT,hO] at hpf
           unfold a9l at hA hB hI
           generalize pOf (.mk y1 y2 y3 y4 y5)=PQ at *
           generalize Y4 y4 y5 a8j=RA at *
           generalize Y4 y4 y5 a2i=RB at *
           generalize Y4 y4 y5 wId=RI at *
           obtain ⟨⟨a1,a2,a3,a4,a5⟩,ab⟩:=RA
           obtain ⟨⟨b1,b2,b3,b4,b5⟩,bb⟩:=RB
           obtain ⟨⟨i1,i2,i3,i4,i5⟩,ib⟩:=RI
           obtain ⟨bt,hbt,hbt6⟩:∃ bt,f9 Tryz.prog 60 [.val (J9 (.mk b1 b2 b3 b4 b5))] (.ret (.val (tx bt)) []) []∧(b1=6→bt=jtx (.mk b1 b2 b3 b4 b5)):=by
            rcases gB with h | ⟨x,h,hgx⟩
            · cases h;exact ⟨jnull,b63,fun h=>by cases h⟩
            · cases h;exact ⟨_,b9f 2 _ (by omega) hgx,fun _=>rfl⟩
           simp only [p7] at hA hB hI hbt
           obtain ⟨T,hTT⟩:∃ T,(ab && (bb && (ib && (decide (y4.length=3) && (decide (a1=3) && (decide (i1=3) && decide (b1=6)))))))=T:=⟨_,rfl⟩
           replace hpf:PQ=if T=true then ((⟨i2,a2,jtx (.mk b1 b2 b3 b4 b5)⟩:LParcel),pOK i2 a2 (jtx (.mk b1 b2 b3 b4 b5))) else (⟨0,0,[]⟩,false):=by rw [← hTT];exact hpf
           have hf0:=hf
           replace hf:T=false→is.all (fun x=>(pOf x).2)=false:=fun h=>hf (by rw [hpf,h];rfl)
           simp [num,tx,h1,hy,p7]
           refine T0 rfl rfl (.inl rfl) hA ?_
           simp [num,tx,a6]
           refine T0 rfl rfl (.inl rfl) hB ?_
           simp [num,tx,a6]
           refine T0 rfl rfl (.inl rfl) hI ?_
           simp [num,tx,a6]
           constructor
           all_goals
            refine d4 rfl rfl (.inl rfl) hbt ?_
            by_cases c1:y1=6
            · by_cases c2:y5.length=3
              · cases ab with
                | false=>
                 simp [num,tx,a6,c1,c2]
                 rw [← hZ,hRR,hf (by rw [← hTT];simp [c1,c2])]
                 simp [num]
                 exact V3 3 600 (by omega) (.inl (by omega)) (by omega) (by simp) (by simp)
                | true=>
                 cases bb with
                 | false=>
                  simp [num,tx,a6,c1,c2]
                  rw [← hZ,hRR,hf (by rw [← hTT];simp [c1,c2])]
                  simp [num]
                  exact V3 3 600 (by omega) (.inl (by omega)) (by omega) (by simp) (by simp)
                 | true=>
                  cases ib with
                  | false=>
                   simp [num,tx,a6,c1,c2]
                   rw [← hZ,hRR,hf (by rw [← hTT];simp [c1,c2])]
                   simp [num]
                   exact V3 3 600 (by omega) (.inl (by omega)) (by omega) (by simp) (by simp)
                  | true=>
                   by_cases c5:a1=3
                   · by_cases c6:i1=3
                     · by_cases c7:b1=6
                       · have hbt:bt=jtx (.mk b1 b2 b3 b4 b5):=hbt6 c7
                         have qO:=b9h i2 a2 bt
                         simp [num,tx,a6,c1,c2,c5,c6,c7]
                         refine d4 rfl rfl (.inl rfl) qO ?_
                         have hT1:T=true:=by rw [← hTT];simp [(h63 c1).1 c2,c5,c6,c7]
                         rw [hT1,if_pos rfl] at hpf
                         subst hpf
                         rw [← hbt] at *
                         cases hp:pOK i2 a2 bt with
                         | true=>
                          simp [num,tx,a6,elems,RV.one,F7]
                          refine ⟨by omega,by omega,?_⟩
                          refine LoopNext.mk (i+1) ⟨h1,fun j hj hji=>?_⟩ (by omega) (Le.mk _ _ ?_ ?_)
                          · by_cases e:j=i
                            · subst e;rw [hyy];exact hp
                            · exact hall j hj (by omega)
                          · simp [num,wi,tx]
                          · rw [hst];simp [num,tx,N6]
                         | false=>
                          simp [num,tx,a6]
                          rw [← hZ,hRR,hf0 hp]
                          simp [num]
                          exact V3 3 600 (by omega) (.inl (by omega)) (by omega) (by simp) (by simp)
                       · skip
                         simp [num,tx,a6,c1,c2,c5,c6,c7]
                         rw [← hZ,hRR,hf (by rw [← hTT];simp [c1,c2,c5,c6,c7])]
                         simp [num]
                         exact V3 3 600 (by omega) (.inl (by omega)) (by omega) (by simp) (by simp)
                     · skip
                       simp [num,tx,a6,c1,c2,c5,c6]
                       rw [← hZ,hRR,hf (by rw [← hTT];simp [c1,c2,c5,c6])]
                       simp [num]
                       exact V3 3 600 (by omega) (.inl (by omega)) (by omega) (by simp) (by simp)
                   · skip
                     simp [num,tx,a6,c1,c2,c5]
                     rw [← hZ,hRR,hf (by rw [← hTT];simp [c1,c2,c5])]
                     simp [num]
                     exact V3 3 600 (by omega) (.inl (by omega)) (by omega) (by simp) (by simp)
              · skip
                have c2':¬ (y5.length:Int)=3:=by omega
                simp [num,tx,a6,c1,c2,c2']
                rw [← hZ,hRR,hf (by rw [← hTT];simp [show ¬ y4.length=3 from fun h=>c2 ((h63 c1).2 h)])]
                simp [num]
                exact V3 3 600 (by omega) (.inl (by omega)) (by omega) (by simp) (by simp)
            · skip
              simp [num,tx,a6,c1]
              rw [← hZ,hRR,hf (by rw [← hTT];simp [show ¬ y4.length=3 from fun h=>c1 (h43 h)])]
              simp [num]
              exact V3 3 600 (by omega) (.inl (by omega)) (by omega) (by simp) (by simp)
         · have ht:is.all (fun x=>(pOf x).2)=true:=by
            rw [List.all_eq_true]
            intro x hx
            obtain ⟨j,hj,rfl⟩:=List.mem_iff_getElem.1 hx
            exact hall j hj (by omega)
           have e:i=is.length:=by omega
           subst e
           simp [num,tx]
           rw [← hZ,hRR,ht]
           simp [num]
           exact b54 34 (by simp) (by simp) (by simp [Function.comp_def])
   · obtain rfl:R=([],9):=by rw [← hR];simp [rp,h0,h5,LJson.kind,LJson.items]
     simp [num,tx,h0,h5]
     rw [← hZ]
     simp [num]
     exact V3 3 600 (by omega) (.inl (by omega)) (by omega) (by simp) (by simp)
 · obtain rfl:R=([],c):=by rw [← hR];simp [rp,h0]
   simp [num,tx,h0]
   rw [← hZ]
   simp [num]
   exact V3 3 600 (by omega) (.inl (by omega)) (by omega) (by simp) (by simp)
end Go.Proofs
end
