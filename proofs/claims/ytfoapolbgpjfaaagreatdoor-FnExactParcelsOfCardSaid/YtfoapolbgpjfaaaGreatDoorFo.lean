/- Fo: merged out of KXan, KXao, KJi, KXap, KJl, KXaq, KXar, KXas, KXat, KXau, KXav. -/
import Derived.Test.YtfoapolbgpjfaaaGreatDoorFn
import Derived.Test.YtfoapolbgpjfaaaGreatDoorEc
import Derived.Test.YtfoapolbgpjfaaaGreatDoorBa
import Derived.Test.YtfoapolbgpjfaaaGreatDoorCa
import Derived.Test.YtfoapolbgpjfaaaGreatDoorEa
import Derived.Test.YtfoapolbgpjfaaaGreatDoorAc
import Derived.Test.YtfoapolbgpjfaaaGreatDoorShelf
import Derived.Shelf.Strings.OnBuilder
import Derived.Test.YtfoapolbgpjfaaaGreatDoorCb
import Derived.Test.YtfoapolbgpjfaaaGreatDoorFl
import Derived.Test.YtfoapolbgpjfaaaGreatDoorPWag
set_option linter.unusedSectionVars false
set_option linter.unusedSimpArgs false
set_option linter.unusedVariables false
set_option maxRecDepth 100000
section
namespace Go.Proofs
open Go.PW Go.KP
attribute [local simp] RV.cells RV.one PV.cells PV.solid PV.one J2 a6 N0 N1 RV.ofCells elems PV.killL
variable [GH]
def a3z:LJson:=.mk 0 0 [] [] []
def W7 (ns:List Tx) (xs:List LJson) (n:Tx):LJson×Bool:=if a3o ns (fun x=>decide (x=n)) < 0 then (a3z,false) else (xs.getD (a3o ns fun x=>decide (x=n)).toNat a3z,true)
def a7z (ns:List Tx) (xs:List LJson) (n:Tx):PV:=.tup [.val (I9 (W7 ns xs n).1),.val (.bool (W7 ns xs n).2)]
theorem a95 (k m:Int) (t:Tx) (ns:List Tx) (xs:List LJson) (n:Tx) (hl:ns.length < 1099511627776) (hx:∀ i:Nat,a3o ns (fun x=>decide (x=n))=i→i < xs.length):n7 Tryz.prog 59 [.val (I9 (.mk k m t ns xs)),.val (tx n)] (.ret (a7z ns xs n) []) []:=by
 refine J0 mixed ok59 rfl (fun _=>rfl) ?_
 have hI:=a77 ns n hl
 rw [m7]
 unfold ir59 a7z W7
 obtain ⟨z,hz⟩:∃ z,a3o ns (fun x=>decide (x=n))=z:=⟨_,rfl⟩
 rw [hz] at hI hx ⊢
 rw [b7]
 simp [d3,x8,M5,a7,c8,num,tx,x6,a6]
 refine n0 (by simp [O1,avOf,tx]) rfl (.inl rfl) hI ?_
 by_cases h:z < 0
 · simp [num,tx,h,O5,R7,Z2,St.fin,St.freeze,PV.frzL,PV.frz,PV.plL,PV.pl,O0,okId,MObj.pl,a6,N0,I9,X9,x6,a3z]
 · obtain ⟨i,rfl⟩:∃ i:Nat,z=i:=⟨z.toNat,by omega⟩
   have hi:=hx i rfl
   obtain ⟨y,hy⟩:∃ y,xs.getD i a3z=y:=⟨_,rfl⟩
   have hy2:xs[i]=y:=by rw [← hy];simp [hi]
   obtain ⟨a1,a2,a3,a4,a5⟩:=y
   simp [num,tx,h,hi,hy2,m7,O5,R7,Z2,St.fin,St.freeze,PV.frzL,PV.frz,PV.plL,PV.pl,O0,okId,MObj.pl,a6,N0,x6]
theorem c2a {ns:List Tx} {xs:List LJson} {n:Tx} {i:Nat} (hi:i < ns.length) (h1:ns[i]=n) (h:∀ j (hj:j < i),ns[j]'(by omega)≠n):W7 ns xs n=(xs.getD i a3z,true):=by
 unfold W7
 rw [a9q hi (by simp [h1]) (fun k hk=>by simpa using h k hk),if_neg (by omega)]
 rfl
theorem b90 {ns:List Tx} {xs:List LJson} {n:Tx} (h:∀ j (hj:j < ns.length),ns[j]≠n):W7 ns xs n=(a3z,false):=by
 unfold W7
 rw [a7f (fun k hk=>by simpa using h k hk),if_pos (by omega)]
theorem a4h (k m:Int) (t:Tx) (ns:List Tx) (xs:List LJson) (n:Tx) (hl:ns.length≤1048576) (hx:ns=[]∨ns.length=xs.length):n7 Tryz.prog 160 [.val (I9 (.mk k m t ns xs)),.val (tx n)] (.ret (a7z ns xs n) []) []:=by
 refine J0 mixed ok160 rfl (fun _=>rfl) ?_
 rw [m7]
 obtain ⟨R,hR⟩:∃ R,W7 ns xs n=R:=⟨_,rfl⟩
 obtain ⟨Z,hZ⟩:∃ Z,a45 [.c 4 true 5,.t 5] (a7z ns xs n)=Z:=⟨_,rfl⟩
 rw [hZ]
 unfold ir160
 rw [b7]
 simp [d3,x8,M5,a7,c8,num,tx,x6,a6]
 refine O6 (X:=Nat) (fun i=>⟨P6 [(1,.val (tx n)),(2,.ptr 2 0),(4,.ptr 4 0),(6,.val (num (i:Int)))],P3 [(2,.box [.val (num k),.val (num m),.val (tx t),.val (.list 1 (ns.map tx)),.val (.list 5 (xs.map I9))]),(4,.box [.val (num 0),.val (num 0),.val (tx []),.emp 1,.emp 5])]⟩)
  (fun i=>i≤ns.length∧∀ j (h:j < ns.length),j < i→ns[j]≠n) (fun i=>ns.length - i) 0 (Le.mk _ _ ?_ ?_) ⟨Nat.zero_le _,fun j _ h=>absurd h (Nat.not_lt_zero _)⟩ ?_
 · simp [num,tx,PV.kill]
 · simp [num,tx,MObj.kill,PV.kill,PV.killL,x6]
 · rintro i ⟨hi,hno⟩
   have wi:IntKind.i64.wrap ((i:Int)+1)=((i+1:Nat):Int):=by rw [wrap_i64 (by omega) (by omega)];omega
   by_cases h1:i < ns.length
   · have h2:i < xs.length:=by rcases hx with h | h;subst h;simp at h1;omega
     obtain ⟨y,hy⟩:∃ y,xs[i]=y:=⟨_,rfl⟩
     obtain ⟨a1,a2,a3,a4,a5⟩:=y
     obtain ⟨u,hu⟩:∃ u,ns[i]=u:=⟨_,rfl⟩
     by_cases h3:u=n
     · have hj:=c2a (xs:=xs) h1 (hu.trans h3) (fun j hj=>hno j (by omega) hj)
       have hg:xs.getD i a3z=.mk a1 a2 a3 a4 a5:=by simp [h2,hy]
       rw [hg] at hj
       subst h3
       simp [num,tx,h1,h2,hy,hu,m7,Q3]
       rw [← hZ]
       unfold a7z
       rw [hj]
       simp [num,tx,m7,O5,R7,Z2,St.fin,St.freeze,PV.frzL,PV.frz,PV.plL,PV.pl,O0,okId,MObj.pl,a6,N0,x6]
     · simp [num,tx,h1,h2,hy,hu,h3,m7,Q3]
       refine LoopNext.mk (i+1) ⟨h1,fun j hj hji=>?_⟩ (by omega) (Le.mk _ _ ?_ ?_)
       · by_cases e:j=i
         · subst e;rw [hu];exact h3
         · exact hno j hj (by omega)
       · simp [num,wi,tx]
       · simp [num,tx]
   · have hj:=b90 (ns:=ns) (xs:=xs) (n:=n) (fun j hj=>hno j hj (by omega))
     simp [num,tx,h1]
     rw [← hZ]
     unfold a7z
     rw [hj]
     simp [num,tx,I9,X9,a3z,O5,R7,Z2,St.fin,St.freeze,PV.frzL,PV.frz,PV.plL,PV.pl,O0,okId,MObj.pl,a6,N0,x6]
end Go.Proofs
end
section
namespace Go.Proofs
open Go.PW Go.KP
variable [GF]
theorem b3p (n:Int) (h0:-1000000000000≤n) (h1:n≤9223372036854775807):n7 Tryz.prog 223 [.val (num n)] (.ret (.val (tx (a1w n))) []) []:=by
 by_cases hn:n < 0
 · obtain ⟨m,rfl⟩:∃ m:Nat,n=-(m:Int):=⟨(-n).toNat,by omega⟩
   have hc:=a3n m (by omega)
   have hw:IntKind.i64.wrap (m:Int)=(m:Int):=wrap_i64 (by omega) (by omega)
   have hm:¬ -(m:Int)=-9223372036854775808:=by omega
   have hl:=b4v m
   have he:a1w (-(m:Int))=45 :: Z3 m:=by
    unfold a1w
    rw [if_pos hn]
    simp
   rw [he]
   have hn':0 < m:=by omega
   refine J0 mixed ok223 rfl (fun _=>rfl) ?_
   unfold ir223
   rw [b7]
   have hm2:¬ (m:Int)=9223372036854775808:=by omega
   simp [d3,x8,M5,a7,c8,num,hm,hm2,hn,hn',hw]
   refine n0 rfl rfl (.inl rfl) hc ?_
   simp [d3,x8,M5,a7,c8,num,tx,x6,a8,R1]
   omega
 · obtain ⟨m,rfl⟩:∃ m:Nat,n=m:=⟨n.toNat,by omega⟩
   have:=a3n m (by omega)
   rw [show a1w (m:Int)=Z3 m by unfold a1w;rw [if_neg (by omega)];rfl]
   exact this
end Go.Proofs
end
section
namespace Go.Proofs
open Go.PW Go.KP
attribute [local simp] RV.cells RV.one PV.cells PV.solid PV.one J2 a6 N0 N1 RV.ofCells elems PV.killL
section
variable [GF]
theorem b0j (t:Tx) (ht:t.length≤1048576):n7 Tryz.prog 224 [.val (tx t)] (.ret (.val (tx (a0d t))) []) []:=by
 refine J0 mixed ok224 rfl (fun _=>rfl) ?_
 unfold ir224
 rw [b7]
 simp [d3,x8,M5,a7,c8,tx,num]
 refine O6 (X:=Nat) (fun i=>⟨P6 [(0,.val (tx t)),(3,.val (tx (34 :: a0o (t.take i)))),(4,.val (num i))],P3 []⟩) (fun i=>i≤t.length) (fun i=>t.length - i) 0 (Le.mk _ _ ?_ ?_) ?_ ?_
 · simp [upd,tx,num,a0o,x6]
 · simp
 · simp
 · intro i hi
   simp [num,tx,a8]
   refine O7 (fun h1=>?_) (fun h1=>?_)
   · have hq:=a2s (t.take i)
     have hti:(t.take i).length=i:=by simp;omega
     have hsucc:=a9c t i h1
     obtain ⟨c,hc⟩:∃ c,t[i]=c:=⟨_,rfl⟩
     rw [hc] at hsucc
     have e1:((c.toNat:Int)=34)↔c.toNat=34:=by omega
     have e2:((c.toNat:Int)=92)↔c.toNat=92:=by omega
     have e3:((c.toNat:Int) < 32)↔c.toNat < 32:=by omega
     have e4:((126:Int) < c.toNat)↔126 < c.toNat:=by omega
     have wi:IntKind.i64.wrap ((i:Int)+1)=((i+1:Nat):Int):=by rw [wrap_i64 (by omega) (by omega)];omega
     have fin:∀ st':St,st'.env 0=.val (tx t)→st'.env 3=.val (tx (34 :: (a0o (t.take i)++qb c)))→st'.env 4=.val (num ((i+1:Nat):Int))→∃ x',x'≤t.length∧t.length - x' < t.length - i∧Le st' ⟨P6 [(0,.val (tx t)),(3,.val (tx (34 :: a0o (t.take x')))),(4,.val (num x'))],P3 []⟩:=fun st' q0 q3 q4=>by
      refine ⟨i+1,h1,by omega,Le.mk _ _ ?_ ?_⟩
      · simp [q0,q3,q4,hsucc]
      · simp
     have h256:c.toNat < 256:=c.toNat_lt
     have hr:(t.drop i).take 1=[c]:=by rw [← hc,List.drop_eq_getElem_cons h1];rfl
     have hr2:(t.take (i+1)).drop i=[c]:=by rw [List.drop_take,show i+1 - i=1 by omega,hr]
     have wi2:IntKind.i64.wrap ((i:Int)+1)=(i:Int)+1:=wrap_i64 (by omega) (by omega)
     have fin':∀ st':St,st'.env 0=.val (tx t)→st'.env 3=.val (tx (34 :: (a0o (t.take i)++qb c)))→st'.env 4=.val (num ((i:Int)+1))→∃ x',x'≤t.length∧t.length - x' < t.length - i∧Le st' ⟨P6 [(0,.val (tx t)),(3,.val (tx (34 :: a0o (t.take x')))),(4,.val (num x'))],P3 []⟩:=fun st' q0 q3 q4=>fin st' q0 q3 (by rw [q4];rfl)
     by_cases h34:c.toNat=34
     · simp [num,tx,a8,M8,S2,R1,x6,hti,h1,hc,e1,e2,e3,e4,h34,wi2,hr2]
       refine ⟨by omega,by omega,fin' _ ?_ ?_ ?_⟩
       · simp [num,tx]
       · simp [num,tx,qb,h34]
       · simp [num,tx]
     by_cases h92:c.toNat=92
     · simp [num,tx,a8,M8,S2,R1,x6,hti,h1,hc,e1,e2,e3,e4,h92,wi2,hr2]
       refine ⟨by omega,by omega,fin' _ ?_ ?_ ?_⟩
       · simp [num,tx]
       · simp [num,tx,qb,h92]
       · simp [num,tx]
     by_cases h32:c.toNat < 32
     · have hqb:qb c=[92,117,48,48,hexs.getD (c.toNat / 16) 0,hexs.getD (c.toNat % 16) 0]:=by unfold qb;rw [if_neg (by omega),if_neg (by omega)]
       have w1:IntKind.u8.wrap ((c.toNat:Int) / 16)=((c.toNat / 16:Nat):Int):=by rw [Y8 (by omega) (by omega)];omega
       have w2:((c.toNat:Int)).tmod 16=((c.toNat % 16:Nat):Int):=by rw [Int.tmod_eq_emod_of_nonneg (by omega)];omega
       generalize ha:hexs.getD (c.toNat / 16) 0=a at hqb
       generalize hb:hexs.getD (c.toNat % 16) 0=b at hqb
       have f1:([48,49,50,51,52,53,54,55,56,57,97,98,99,100,101,102]:List UInt8)[c.toNat / 16]?.getD 0=a:=by rw [← ha,List.getD_eq_getElem?_getD];rfl
       have f2:([48,49,50,51,52,53,54,55,56,57,97,98,99,100,101,102]:List UInt8)[c.toNat % 16]?.getD 0=b:=by rw [← hb,List.getD_eq_getElem?_getD];rfl
       generalize hn1:c.toNat / 16=n1 at w1 f1 ha
       generalize hn2:c.toNat % 16=n2 at w2 f2 hb
       have g1:n1 < 16:=by omega
       have g2:n2 < 16:=by omega
       have f3:([48,49,50,51,52,53,54,55,56,57,97,98,99,100,101,102]:List UInt8)[n1]'g1=a:=by rw [← f1,List.getElem?_eq_getElem g1];rfl
       have f4:([48,49,50,51,52,53,54,55,56,57,97,98,99,100,101,102]:List UInt8)[n2]'g2=b:=by rw [← f2,List.getElem?_eq_getElem g2];rfl
       simp [num,tx,a8,M8,S2,R1,x6,hti,h1,hc,e1,e2,e3,e4,h34,h92,h32,wi2,hr2,w1,w2,f3,f4,g1,g2,RV.isU8,U1,RV.byte]
       refine ⟨?_,?_,?_,fin' _ ?_ ?_ ?_⟩
       · omega
       · omega
       · omega
       · simp [num,tx]
       · simp [num,tx,hqb]
       · simp [num,tx]
     by_cases h126:126 < c.toNat
     · have hqb:qb c=[92,117,48,48,hexs.getD (c.toNat / 16) 0,hexs.getD (c.toNat % 16) 0]:=by unfold qb;rw [if_neg (by omega),if_neg (by omega)]
       have w1:IntKind.u8.wrap ((c.toNat:Int) / 16)=((c.toNat / 16:Nat):Int):=by rw [Y8 (by omega) (by omega)];omega
       have w2:((c.toNat:Int)).tmod 16=((c.toNat % 16:Nat):Int):=by rw [Int.tmod_eq_emod_of_nonneg (by omega)];omega
       generalize ha:hexs.getD (c.toNat / 16) 0=a at hqb
       generalize hb:hexs.getD (c.toNat % 16) 0=b at hqb
       have f1:([48,49,50,51,52,53,54,55,56,57,97,98,99,100,101,102]:List UInt8)[c.toNat / 16]?.getD 0=a:=by rw [← ha,List.getD_eq_getElem?_getD];rfl
       have f2:([48,49,50,51,52,53,54,55,56,57,97,98,99,100,101,102]:List UInt8)[c.toNat % 16]?.getD 0=b:=by rw [← hb,List.getD_eq_getElem?_getD];rfl
       generalize hn1:c.toNat / 16=n1 at w1 f1 ha
       generalize hn2:c.toNat % 16=n2 at w2 f2 hb
       have g1:n1 < 16:=by omega
       have g2:n2 < 16:=by omega
       have f3:([48,49,50,51,52,53,54,55,56,57,97,98,99,100,101,102]:List UInt8)[n1]'g1=a:=by rw [← f1,List.getElem?_eq_getElem g1];rfl
       have f4:([48,49,50,51,52,53,54,55,56,57,97,98,99,100,101,102]:List UInt8)[n2]'g2=b:=by rw [← f2,List.getElem?_eq_getElem g2];rfl
       simp [num,tx,a8,M8,S2,R1,x6,hti,h1,hc,e1,e2,e3,e4,h34,h92,h32,h126,wi2,hr2,w1,w2,f3,f4,g1,g2,RV.isU8,U1,RV.byte]
       refine ⟨?_,?_,?_,fin' _ ?_ ?_ ?_⟩
       · omega
       · omega
       · omega
       · simp [num,tx]
       · simp [num,tx,hqb]
       · simp [num,tx]
     · have h32':32≤c.toNat:=by omega
       have h126':c.toNat≤126:=by omega
       simp [num,tx,a8,M8,S2,R1,x6,hti,h1,hc,e1,e2,e3,e4,h34,h92,h32,h126,wi2,hr2]
       refine ⟨by omega,by omega,fin' _ ?_ ?_ ?_⟩
       · simp [num,tx]
       · simp [num,tx,qb,h34,h92,h32',h126']
       · simp [num,tx]
   · have e:i=t.length:=by omega
     subst e
     have hq:=a2s t
     simp [num,tx,a8,x6,R1,a0d]
     omega
theorem b81 (t:Tx) (ht:t.length≤1048576):n7 Tryz.prog 121 [.val (tx t)] (.ret (.val (tx (a0d t))) []) []:=by
 refine J0 mixed ok121 rfl (fun _=>rfl) ?_
 unfold ir121
 rw [b7]
 simp [d3,x8,M5,a7,c8,tx,num,elems,a8]
 refine O6 (X:=Nat) (fun i=>⟨P6 [(0,.val (tx t)),(3,.own 6),(8,.val (num t.length)),(9,.val (num i))],P3 [(6,.row 5 1 ((34 :: a0o (t.take i)).map rvb))]⟩) (fun i=>i≤t.length) (fun i=>t.length - i) 0 (Le.mk _ _ ?_ ?_) ?_ ?_
 · simp [upd,tx,num,PV.kill]
 · simp [upd,a0o,rvb]
 · simp
 · intro i hi
   simp [num,tx]
   refine O7 (fun h1=>?_) (fun h1=>?_)
   · have hq:=a2s (t.take i)
     have hti:(t.take i).length=i:=by simp;omega
     have hsucc:=a9c t i h1
     obtain ⟨c,hc⟩:∃ c,t[i]=c:=⟨_,rfl⟩
     rw [hc] at hsucc
     have e1:((c.toNat:Int)=34)↔c.toNat=34:=by omega
     have e2:((c.toNat:Int)=92)↔c.toNat=92:=by omega
     have e3:((c.toNat:Int) < 32)↔c.toNat < 32:=by omega
     have e4:((126:Int) < c.toNat)↔126 < c.toNat:=by omega
     have h256:c.toNat < 256:=c.toNat_lt
     have wi2:IntKind.i64.wrap ((i:Int)+1)=(i:Int)+1:=wrap_i64 (by omega) (by omega)
     have wc:IntKind.i64.wrap (c.toNat:Int)=(c.toNat:Int):=wrap_i64 (by omega) (by omega)
     have fin':∀ st':St,st'.env 0=.val (tx t)→st'.env 3=.own 6→st'.env 8=.val (num t.length)→st'.env 9=.val (num ((i:Int)+1))→st'.mem 6=.row 5 1 ((34 :: a0o (t.take i)).map rvb++(qb c).map rvb)→∃ x',x'≤t.length∧t.length - x' < t.length - i∧Le st' ⟨P6 [(0,.val (tx t)),(3,.own 6),(8,.val (num t.length)),(9,.val (num x'))],P3 [(6,.row 5 1 ((34 :: a0o (t.take x')).map rvb))]⟩:=fun st' q0 q3 q8 q9 m6=>by
      refine ⟨i+1,h1,by omega,Le.mk _ _ ?_ ?_⟩
      · simp [q0,q3,q8,q9,num]
      · simp [m6,hsucc,rvb]
     by_cases h34:c.toNat=34
     · simp [num,tx,rvb,elems,a8,M8,h1,hc,e1,e2,e3,e4,h34,wi2]
       refine ⟨by omega,by omega,fin' _ ?_ ?_ ?_ ?_ ?_⟩
       · simp [num,tx]
       · simp [num,tx]
       · simp [num,tx]
       · simp [num,tx]
       · simp [num,tx,rvb,qb,h34]
     by_cases h92:c.toNat=92
     · simp [num,tx,rvb,elems,a8,M8,h1,hc,e1,e2,e3,e4,h92,wi2]
       refine ⟨by omega,by omega,fin' _ ?_ ?_ ?_ ?_ ?_⟩
       · simp [num,tx]
       · simp [num,tx]
       · simp [num,tx]
       · simp [num,tx]
       · simp [num,tx,rvb,qb,h92]
     simp [num,tx,rvb,elems,a8,M8,h1,hc,e1,e2,e3,e4,h34,h92,wi2,wc]
     refine n0 rfl rfl (.inl rfl) (a0i c.toNat 32 126) ?_
     by_cases h32:32≤c.toNat∧c.toNat≤126
     · have h32':(32:Int)≤c.toNat∧(c.toNat:Int)≤126:=by omega
       rw [decide_eq_true h32']
       simp [num,tx,rvb,elems,a8,M8,h1,hc,e1,e2,e3,e4,h34,h92,wi2]
       refine ⟨by omega,by omega,fin' _ ?_ ?_ ?_ ?_ ?_⟩
       · simp [num,tx]
       · simp [num,tx]
       · simp [num,tx]
       · simp [num,tx]
       · simp [num,tx,rvb,qb,h34,h92,h32]
     · have h32':¬ ((32:Int)≤c.toNat∧(c.toNat:Int)≤126):=by omega
       rw [decide_eq_false h32']
       have hqb:qb c=[92,117,48,48,hexs.getD (c.toNat / 16) 0,hexs.getD (c.toNat % 16) 0]:=by unfold qb;rw [if_neg (by omega),if_neg h32]
       have w1:IntKind.u8.wrap ((c.toNat:Int) / 16)=((c.toNat / 16:Nat):Int):=by rw [Y8 (by omega) (by omega)];omega
       have w2:((c.toNat:Int)).tmod 16=((c.toNat % 16:Nat):Int):=by rw [Int.tmod_eq_emod_of_nonneg (by omega)];omega
       generalize ha:hexs.getD (c.toNat / 16) 0=a at hqb
       generalize hb:hexs.getD (c.toNat % 16) 0=b at hqb
       have f1:([48,49,50,51,52,53,54,55,56,57,97,98,99,100,101,102]:List UInt8)[c.toNat / 16]?.getD 0=a:=by rw [← ha,List.getD_eq_getElem?_getD];rfl
       have f2:([48,49,50,51,52,53,54,55,56,57,97,98,99,100,101,102]:List UInt8)[c.toNat % 16]?.getD 0=b:=by rw [← hb,List.getD_eq_getElem?_getD];rfl
       generalize hn1:c.toNat / 16=n1 at w1 f1 ha
       generalize hn2:c.toNat % 16=n2 at w2 f2 hb
       have g1:n1 < 16:=by omega
       have g2:n2 < 16:=by omega
       have f3:([48,49,50,51,52,53,54,55,56,57,97,98,99,100,101,102]:List UInt8)[n1]'g1=a:=by rw [← f1,List.getElem?_eq_getElem g1];rfl
       have f4:([48,49,50,51,52,53,54,55,56,57,97,98,99,100,101,102]:List UInt8)[n2]'g2=b:=by rw [← f2,List.getElem?_eq_getElem g2];rfl
       simp [num,tx,rvb,elems,a8,M8,h1,hc,e1,e2,e3,e4,x6,h34,h92,wi2,w1,w2,f3,f4,g1,g2]
       refine ⟨by omega,by omega,by omega,by omega,fin' _ ?_ ?_ ?_ ?_ ?_⟩
       · simp [num,tx]
       · simp [num,tx]
       · simp [num,tx]
       · simp [num,tx]
       · simp [num,tx,rvb,hqb]
   · have e:i=t.length:=by omega
     subst e
     have hq:=a2s t
     simp [num,tx,elems]
     refine ⟨by omega,by omega,?_⟩
     have e:rvb 34 :: ((a0o t).map rvb++[RV.int .u8 34])=(a0d t).map rvb:=by simp [a0d,rvb]
     exact ⟨⟨rfl,fun x _=>rfl,rfl⟩,by rw [e,a4j]⟩
end
end Go.Proofs
end
section
namespace Go.Proofs
open Go.PW Go.KP
attribute [local simp] RV.cells RV.one PV.cells PV.solid PV.one J2 a6 N0 N1 RV.ofCells elems PV.killL
section
variable [GF]
def U3 (k n:Int) (t:Tx) (ns:List Tx) (is:List LJson):MObj:=.box [.val (num k),.val (num n),.val (tx t),.val (.list 1 (ns.map tx)),.val (.list 5 (is.map I9))]
def a1x (k:Int) (ns:List Tx) (x:LJson) (i:Nat):Tx:=if k=6 then a0d (ns.getD i [])++58 :: jtx x else jtx x
theorem b72 {K:Kx (PExit→St→Prop)} (k n:Int) (t:Tx) (ns:List Tx) (is:List LJson) (i:Nat) (q:Tx) (h1:i < is.length) (hq:q.length≤70368752566272) (hl:(jtx is[i]).length≤70368752566272)
 (hC:n7 Tryz.prog 177 [.val (I9 is[i])] (.ret (.val (tx (jtx is[i]))) []) [])
 (hn:∀ st':St,st'.env 1=.ptr 1 0→st'.env 3=.val (tx (q++jtx is[i]))→st'.env 4=.val (num i)→st'.mem 1=U3 k n t ns is→K.k .normal st')
 (st:St) (e1:st.env 1=.ptr 1 0) (e3:st.env 3=.val (tx q)) (e4:st.env 4=.val (num i)) (m1:st.mem 1=U3 k n t ns is):EC Tryz.prog ir177_s49 st (K:=K):=by
 obtain ⟨⟨k',n',t',ns',is'⟩,hx⟩:∃ x,is[i]=x:=⟨_,rfl⟩
 rw [hx] at hl hC hn
 rw [m7] at hC
 obtain ⟨r,hr⟩:∃ r,jtx (.mk k' n' t' ns' is')=r:=⟨_,rfl⟩
 rw [hr] at hl hC hn
 unfold ir177_s49
 simp [e1,e3,e4,m1,U3,num,tx,h1,hx,m7]
 refine n0 rfl rfl (.inl rfl) hC ?_
 simp [num,tx,a8,R1]
 refine ⟨by omega,hn _ ?_ ?_ ?_ ?_⟩
 all_goals simp [e1,e3,e4,m1,U3,num,tx]
theorem b73 {K:Kx (PExit→St→Prop)} (k n:Int) (t:Tx) (ns:List Tx) (is:List LJson) (i:Nat) (q:Tx) (h1:i < is.length) (hq:q.length≤70368744177664) (hl:(jtx is[i]).length≤70368744177664)
 (hk:k=6→ns.length=is.length∧∀ s∈ns,s.length≤1048576)
 (hC:n7 Tryz.prog 177 [.val (I9 is[i])] (.ret (.val (tx (jtx is[i]))) []) [])
 (hn:∀ st':St,st'.env 1=.ptr 1 0→st'.env 3=.val (tx (q++a1x k ns is[i] i))→st'.env 4=.val (num i)→st'.mem 1=U3 k n t ns is→K.k .normal st')
 (st:St) (e1:st.env 1=.ptr 1 0) (e3:st.env 3=.val (tx q)) (e4:st.env 4=.val (num i)) (m1:st.mem 1=U3 k n t ns is):EC Tryz.prog ir177_s37 st (K:=K):=by
 unfold ir177_s37
 by_cases h6:k=6
 · obtain ⟨hnl,hns⟩:=hk h6
   have h2:i < ns.length:=by omega
   have hqn:=a3a ns[i]
   have hsl:=hns _ (List.getElem_mem h2)
   have hQ:=b0j ns[i] hsl
   simp [e1,e3,e4,m1,U3,num,tx,h6,h2]
   refine n0 rfl rfl (.inl rfl) hQ ?_
   simp [num,tx,a8,R1,x6]
   refine ⟨by omega,by omega,?_⟩
   refine b72 6 n t ns is i (q++(a0d ns[i]++[58])) h1 (by simp;omega) (by omega) hC (fun st' q1 q3 q4 m1=>hn st' q1 ?_ q4 (by rw [h6];exact m1)) _ ?_ ?_ ?_ ?_
   · rw [q3];simp [a1x,h6,List.getD_eq_getElem?_getD,h2]
   all_goals simp [e1,e3,e4,m1,U3,num,tx,h6]
 · simp [e1,e3,e4,m1,U3,num,tx,h6]
   refine b72 k n t ns is i q h1 (by omega) (by omega) hC (fun st' q1 q3 q4 m1=>hn st' q1 (by rw [q3];simp [a1x,h6]) q4 m1) _ ?_ ?_ ?_ ?_
   all_goals simp [e1,e3,e4,m1,U3,num,tx]
theorem a6l (k:Int) (ns:List Tx) (is:List LJson) (hk:k=6→ns.length=is.length) (i:Nat) (h:i < is.length):(R8 k ns (is.map jtx)).length=is.length∧∀ h',(R8 k ns (is.map jtx))[i]'h' = a1x k ns is[i] i:=by
 refine ⟨by rw [Z6,List.length_map],fun h'=>?_⟩
 by_cases h6:k=6
 · subst h6
   have hn:=hk rfl
   rw [a5r ns _ (by rw [List.length_map];exact hn) i (by omega) (by rw [List.length_map];exact h)]
   simp [a1x,List.getD_eq_getElem?_getD,show i < ns.length by omega]
 · have e:=a0t h6 ns (is.map jtx)
   simp only [e,a1x,if_neg h6,List.getElem_map]
theorem c01 {d:Nat} (k n:Int) (t:Tx) (ns:List Tx) (is:List LJson) (hd:d≤3) (hkk:k=5∨(k=6∧ns.length=is.length∧∀ s∈ns,s.length≤120)) (hl:is.length≤12) (hs:∀ x∈is,Q2 d x)
 (hCs:∀ x∈is,n7 Tryz.prog 177 [.val (I9 x)] (.ret (.val (tx (jtx x))) []) []):n7 Tryz.prog 177 [.val (I9 (.mk k n t ns is))] (.ret (.val (tx (jtx (.mk k n t ns is)))) []) []:=by
 refine J0 mixed ok177 rfl (fun _=>rfl) ?_
 unfold ir177
 rw [b7]
 rw [m7]
 have hk':k=5∨k=6:=hkk.elim .inl fun h=>.inr h.1
 have n1:¬ k=1:=by omega
 have n2:¬ k=2:=by omega
 have n3:¬ k=3:=by omega
 have n4:¬ k=4:=by omega
 have h6:k=6→ns.length=is.length∧∀ s∈ns,s.length≤1048576:=fun h=>hkk.elim (fun h5=>by omega) fun h=>⟨h.2.1,fun s hs=>by have:=h.2.2 s hs;omega⟩
 have hacc:=fun i=>(a2u hd hkk hl hs i).1
 obtain ⟨r,hr⟩:∃ r,jtx (.mk k n t ns is)=r:=⟨_,rfl⟩
 rw [hr]
 simp [d3,x8,M5,a7,c8,tx,num,n1,n2,n3,n4]
 refine O6 (X:=Nat) (fun i=>⟨P6 [(1,.ptr 1 0),(3,.val (tx (Y4 [44] ((R8 k ns (is.map jtx)).take i)))),(4,.val (num i))],P3 [(1,U3 k n t ns is)]⟩) (fun i=>i≤is.length) (fun i=>is.length - i) 0 (Le.mk _ _ ?_ ?_) ?_ ?_
 · simp [upd,num,tx,PV.kill,Y4,x6]
 · simp [tx,num,U3]
 · simp
 · intro i hi
   have hai:=hacc i
   simp [num,tx,U3]
   refine O7 (fun h1=>?_) (fun h1=>?_)
   · obtain ⟨g1,g2⟩:=a6l k ns is (fun h=>(h6 h).1) i h1
     have hst:=b6t [44] (R8 k ns (is.map jtx)) i (by rw [g1];exact h1)
     rw [g2] at hst
     have wi:IntKind.i64.wrap ((i:Int)+1)=((i+1:Nat):Int):=by rw [wrap_i64 (by omega) (by omega)];omega
     have hC:=hCs is[i] (List.getElem_mem h1)
     have hil:=(a2u hd hkk hl hs i).2 _ (List.getElem_mem h1)
     generalize hA:Y4 [44] ((R8 k ns (is.map jtx)).take i)=A at *
     simp [num,tx]
     refine O7 (fun h0=>?_) (fun h0=>?_)
     · rw [if_neg (by omega)] at hst
       simp [num,tx,a8,x6,R1]
       refine ⟨by omega,?_⟩
       refine b73 k n t ns is i (A++[44]) h1 (by simp;omega) (by omega) h6 hC (fun st' q1 q3 q4 m1=>?_) _ ?_ ?_ ?_ ?_
       · simp [q1,q3,q4,num]
         refine LoopNext.mk (i+1) h1 (by omega) (Le.mk _ _ ?_ ?_)
         · simp [num,q1,q3,q4,wi,hst]
         · simp [m1]
       all_goals simp [num,tx,U3]
     · rw [if_pos (by omega)] at hst
       simp [num,tx]
       refine b73 k n t ns is i A h1 (by omega) (by omega) h6 hC (fun st' q1 q3 q4 m1=>?_) _ ?_ ?_ ?_ ?_
       · simp [q1,q3,q4,num]
         refine LoopNext.mk (i+1) h1 (by omega) (Le.mk _ _ ?_ ?_)
         · simp [num,q1,q3,q4,wi,hst]
         · simp [m1]
       all_goals simp [num,tx,U3]
   · have e:i=is.length:=by omega
     subst e
     have ht:(R8 k ns (is.map jtx)).take is.length=R8 k ns (is.map jtx):=List.take_of_length_le (by rw [Z6,List.length_map];omega)
     rw [ht] at hai
     rw [W5,if_neg n1,if_neg n2,if_neg n3,if_neg n4] at hr
     rcases hk' with rfl | rfl
     · rw [if_pos rfl] at hr
       rw [a0t (by decide)] at hai ht
       simp [num,tx,U3,x6,R1,a8]
       try rw [a0t (by decide)]
       rw [List.take_of_length_le (by rw [List.length_map];omega)]
       refine ⟨by omega,by omega,by rw [← hr]⟩
     · rw [if_neg (by decide)] at hr
       simp [num,tx,U3,x6,R1,a8]
       rw [ht]
       refine ⟨by omega,by omega,by rw [← hr]⟩
theorem a54:∀ (d:Nat) (j:LJson),d≤4→Q2 d j→n7 Tryz.prog 177 [.val (I9 j)] (.ret (.val (tx (jtx j))) []) []
 | d,.mk k n t ns is,hd,h=>by
  unfold Q2 at h
  rcases h with ⟨rfl,rfl,rfl,rfl,rfl⟩ | ⟨rfl,hb,rfl,rfl,rfl⟩ | ⟨rfl,h1,rfl,rfl,rfl⟩ | ⟨rfl,rfl,h1,rfl,rfl⟩ | ⟨rfl,rfl,hl,hkk0,hs0⟩
  · refine J0 mixed ok177 rfl (fun _=>rfl) ?_
    unfold ir177
    rw [b7,m7]
    simp [d3,x8,M5,a7,c8,tx,num,W5,jnull,x6]
  · rcases hb with rfl | rfl
    · refine J0 mixed ok177 rfl (fun _=>rfl) ?_
      unfold ir177
      rw [b7,m7]
      simp [d3,x8,M5,a7,c8,tx,num,W5,jfalse,x6]
    · refine J0 mixed ok177 rfl (fun _=>rfl) ?_
      unfold ir177
      rw [b7,m7]
      simp [d3,x8,M5,a7,c8,tx,num,W5,jtrue,x6]
  · refine J0 mixed ok177 rfl (fun _=>rfl) ?_
    unfold ir177
    rw [b7,m7]
    simp [d3,x8,M5,a7,c8,tx,num]
    refine n0 rfl rfl (.inl rfl) (b3p n (by omega) (by omega)) ?_
    simp [W5,tx]
  · refine J0 mixed ok177 rfl (fun _=>rfl) ?_
    unfold ir177
    rw [b7,m7]
    simp [d3,x8,M5,a7,c8,tx,num]
    refine n0 rfl rfl (.inl rfl) (b0j t (by omega)) ?_
    simp [W5,tx]
  · cases d with
    | zero=>exact hs0.elim
    | succ d=>
    have hs:∀ x∈is,Q2 d x:=hs0
    have hkk:k=5∨(k=6∧ns.length=is.length∧∀ s∈ns,s.length≤120):=by
     rcases hkk0 with ⟨h,_⟩ | ⟨h,h2,_,h4⟩
     · exact .inl h
     · exact .inr ⟨h,h2,h4⟩
    exact c01 k 0 [] ns is (by omega) hkk hl hs (fun x hx=>a54 d x (by omega) (hs x hx))
end
end Go.Proofs
end
section
namespace Go.Proofs
open Go.PW Go.KP Go.RowKit
variable [GH]
theorem b1q (sep:Tx) (l:List Tx):Go.Lib.join l sep=Y4 sep l:=by
 cases l with
 | nil=>rfl
 | cons x r=>rw [Go.Lib.join_cons];rfl
theorem a7n (t:Tx):(bs t).data.toList=t:=by simp [bs]
theorem a5d (l:List Tx):(l.map bs).map (fun x=>x.data.toList)=l:=by
 rw [List.map_map]
 conv=>rhs;rw [← List.map_id l]
 exact List.map_congr_left fun t _=>a7n t
theorem c2l (l:List Tx) (sep:Tx) (hl:(Y4 sep l).length≤140737488355328) (hn:l.length≤140737488355328):n7 Tryz.prog 122 [.val (.list 1 (l.map tx)),.val (tx sep)] (.ret (.val (tx (Y4 sep l))) []) []:=by
 intro L w vs ms hL hgl hgb hargs hnd
 cases hargs with
 | cons _ _ v vs' ms1 ms2 h1 h2=>
  cases h1 with
  | val _ _ h1=>
   obtain ⟨rfl,rfl⟩:=a8p (rs:=[tx sep]) rfl h2
   have key:Calls Tryz.prog 122 #[v,.string (bs sep)] w fun e w'=>e=.returned (.string (bs (Y4 sep l)))∧Below w.heap.size w w':=by
    generalize hr:RV.list 1 (l.map tx)=r at h1
    cases h1 with
    | list0 sz A c=>
     injection hr with e1 e2
     have:l=[]:=by simpa using e2
     subst this
     exact (Tryz.strings_Join_none A c (bs sep) w).mono fun e w' ⟨he,hw⟩=>⟨he,hw ▸ Below.refl _ _⟩
    | list sz xs b o c f h0 hsz hcap hb hc hx h=>
     injection hr with e1 e2
     subst e1;subst e2
     have hlen:(l.map tx).length=l.length:=by simp
     have hlen':(l.map bs).length=l.length:=by simp
     have hpos:0 < l.length:=by rw [← hlen];exact List.length_pos_iff.2 h0
     have hcell:∀ (j:Nat) x,(l.map bs)[j]?=some x→w.cell? ⟨b,o+j,none⟩=some (.string x):=fun j x hj=>by
      obtain ⟨hj1,hj2⟩:=List.getElem?_eq_some_iff.1 hj
      rw [hlen'] at hj1
      rw [hc j (by rw [hlen];omega)]
      have hh:=h j 0 (by rw [hlen];exact hj1) (by omega)
      have eg:((l.map tx).getD j RV.nilptr)=tx l[j]:=by
       rw [List.getD_eq_getElem?_getD,List.getElem?_eq_getElem (by rw [hlen];exact hj1)];simp
      rw [eg] at hh
      have e3:(tx l[j]).cells.getD 0 RV.nilptr=.str (bs l[j]):=rfl
      rw [e3,Nat.mul_one,Nat.add_zero] at hh
      generalize f j=u at hh
      cases hh
      have:bs l[j]=x:=by rw [← hj2];simp
      rw [this]
     have hbk:b < w.heap.size:=World.block_lt_of_cell? w _ (hc 0 (by rw [hlen];omega))
     have:=Tryz.strings_Join b o c (l.map bs) (bs sep) w hcell hbk (by rw [hlen'];exact hn) (by rw [hlen',← hlen];exact hcap)
      (by rw [a5d,a7n,b1q];exact hl)
     rw [a5d,a7n,b1q,hlen'] at this
     rw [hlen]
     exact this
    | _=>cases hr
   refine key.mono fun e w' ⟨he,hb⟩=>?_
   exact ⟨Outside.of_below hb,_,fun _=>undef,he,.val _ _ (.str _),a3x,rfl,fun i b cells h1 h2=>by simp at h1⟩
end Go.Proofs
end
section
namespace Go.Proofs
open Go.PW Go.KP
attribute [local simp] RV.cells RV.one PV.cells PV.solid PV.one J2 a6 N0 N1 RV.ofCells elems PV.killL
section
variable [GH]
structure XS2 (st:St) (k n:Int) (t:Tx) (ns:List Tx) (is:List LJson) (i:Nat):Prop where
 e1:st.env 1=.ptr 1 0
 e3:st.env 3=.own 30
 e32:st.env 32=.val (.list 5 (is.map I9))
 e33:st.env 33=.val (num is.length)
 e34:st.env 34=.val (num i)
 m1:st.mem 1=U3 k n t ns is
theorem b70 {K:Kx (PExit→St→Prop)} (k n:Int) (t:Tx) (ns:List Tx) (is:List LJson) (i:Nat) (p:Tx) (L:List Tx) (hL:L.length≤16)
 (hn:∀ st':St,XS2 st' k n t ns is i→st'.mem 30=.row 9 1 (L.map tx++[tx p])→K.k .normal st')
 (st:St) (h:XS2 st k n t ns is i) (e6:st.env 6=.val (tx p)) (m30:st.mem 30=.row 9 1 (L.map tx)):EC Tryz.prog ir60_s53 st (K:=K):=by
 obtain ⟨e1,e3,e32,e33,e34,m1⟩:=h
 unfold ir60_s53
 simp [e1,e3,e6,e32,e33,e34,m1,m30,num,tx,elems,a6,RV.one]
 refine ⟨by omega,by omega,hn _ ⟨?_,?_,?_,?_,?_,?_⟩ ?_⟩
 all_goals simp [e1,e3,e6,e32,e33,e34,m1,m30,num,tx,U3,MObj.kill]
theorem b71 {K:Kx (PExit→St→Prop)} (k n:Int) (t:Tx) (ns:List Tx) (is:List LJson) (i:Nat) (L:List Tx) (hL:L.length≤16) (h1:i < is.length)
 (hl:(jtx is[i]).length≤70368744177664)
 (hk:k=6→ns.length=is.length∧∀ s∈ns,s.length≤1048576)
 (hn:∀ st':St,XS2 st' k n t ns is i→st'.mem 30=.row 9 1 (L.map tx++[tx (a1x k ns is[i] i)])→K.k .normal st')
 (st:St) (h:XS2 st k n t ns is i) (e4:st.env 4=.val (num i)) (e6:st.env 6=.val (tx (jtx is[i]))) (m30:st.mem 30=.row 9 1 (L.map tx)):EC Tryz.prog ir60_s41 st (K:=K):=by
 unfold ir60_s41
 have hc:=h
 obtain ⟨e1,e3,e32,e33,e34,m1⟩:=h
 by_cases h6:k=6
 · obtain ⟨hnl,hns⟩:=hk h6
   have h2:i < ns.length:=by omega
   have hqn:=a3a ns[i]
   have hsl:=hns _ (List.getElem_mem h2)
   have hQ:=b81 ns[i] hsl
   simp [e1,e3,e4,e6,m1,U3,num,tx,h6,h2]
   refine n0 rfl rfl (.inl rfl) hQ ?_
   simp [num,tx,e6,a8,R1,x6]
   refine ⟨by omega,by omega,?_⟩
   refine b70 k n t ns is i (a0d ns[i]++58 :: jtx is[i]) L hL (fun st' q m=>hn st' q ?_) _ ⟨?_,?_,?_,?_,?_,?_⟩ ?_ ?_
   · rw [m];simp [a1x,h6,List.getD_eq_getElem?_getD,h2]
   all_goals simp [e1,e3,e4,e6,e32,e33,e34,m1,m30,U3,num,tx,h6]
 · simp [e1,e3,e4,e6,m1,U3,num,tx,h6]
   refine b70 k n t ns is i (jtx is[i]) L hL (fun st' q m=>hn st' q (by rw [m];simp [a1x,h6])) _ ⟨?_,?_,?_,?_,?_,?_⟩ ?_ ?_
   all_goals simp [e1,e3,e4,e6,e32,e33,e34,m1,m30,U3,num,tx]
theorem c00 {d:Nat} (k n:Int) (t:Tx) (ns:List Tx) (is:List LJson) (hd:d≤3) (hkk:k=5∨(k=6∧ns.length=is.length∧∀ s∈ns,s.length≤120)) (hl:is.length≤12) (hs:∀ x∈is,Q2 d x)
 (hCs:∀ x∈is,n7 Tryz.prog 60 [.val (I9 x)] (.ret (.val (tx (jtx x))) []) []):n7 Tryz.prog 60 [.val (I9 (.mk k n t ns is))] (.ret (.val (tx (jtx (.mk k n t ns is)))) []) []:=by
 refine J0 mixed ok60 rfl (fun _=>rfl) ?_
 unfold ir60
 rw [b7]
 rw [m7]
 have hk':k=5∨k=6:=hkk.elim .inl fun h=>.inr h.1
 have n1:¬ k=1:=by omega
 have n2:¬ k=2:=by omega
 have n3:¬ k=3:=by omega
 have n4:¬ k=4:=by omega
 have h6:k=6→ns.length=is.length∧∀ s∈ns,s.length≤1048576:=fun h=>hkk.elim (fun h5=>by omega) fun h=>⟨h.2.1,fun s hs=>by have:=h.2.2 s hs;omega⟩
 have hacc:=(a2u hd hkk hl hs is.length).1
 have hpl:(R8 k ns (is.map jtx)).length=is.length:=by rw [Z6,List.length_map]
 rw [List.take_of_length_le (by omega)] at hacc
 obtain ⟨r,hr⟩:∃ r,jtx (.mk k n t ns is)=r:=⟨_,rfl⟩
 rw [hr]
 obtain ⟨ps,hps⟩:∃ ps,R8 k ns (is.map jtx)=ps:=⟨_,rfl⟩
 have hget:=a6l k ns is fun h=>(h6 h).1
 rw [hps] at hacc hpl hget
 rcases hk' with rfl | rfl
 · simp [d3,x8,M5,a7,c8,tx,num,n1,n2,n3,n4]
   refine O6 (X:=Nat) (fun i=>⟨P6 [(1,.ptr 1 0),(3,.own 30),(32,.val (.list 5 (is.map I9))),(33,.val (num is.length)),(34,.val (num i))],P3 [(1,U3 5 n t ns is),(30,.row 9 1 ((ps.take i).map tx))]⟩) (fun i=>i≤is.length) (fun i=>is.length - i) 0 (Le.mk _ _ ?_ ?_) ?_ ?_
   · simp [upd,num,tx,PV.kill]
   · simp [tx,num,U3,MObj.kill]
   · simp
   · intro i hi
     simp [num,tx]
     refine O7 (fun h1=>?_) (fun h1=>?_)
     · obtain ⟨g1,g2⟩:=hget i h1
       have hst:(ps.take (i+1)).map tx=(ps.take i).map tx++[tx (a1x 5 ns is[i] i)]:=by
        rw [List.take_add_one,List.getElem?_eq_getElem (by omega),g2,List.map_append];rfl
       have wi:IntKind.i64.wrap ((i:Int)+1)=((i+1:Nat):Int):=by rw [wrap_i64 (by omega) (by omega)];omega
       have hC:=hCs is[i] (List.getElem_mem h1)
       have hil:=(a2u hd hkk hl hs i).2 _ (List.getElem_mem h1)
       obtain ⟨⟨k',n',t',ns',is'⟩,hx⟩:∃ x,is[i]=x:=⟨_,rfl⟩
       have hC':=hC
       rw [hx,m7] at hC'
       simp [num,tx,h1,hx,m7]
       refine n0 rfl rfl (.inl rfl) hC' ?_
       simp [num,tx]
       refine b71 5 n t ns is i (ps.take i) (by simp;omega) h1 (by omega) h6 (fun st' q m=>?_) _ ⟨?_,?_,?_,?_,?_,?_⟩ ?_ ?_ ?_
       · obtain ⟨q1,q3,q32,q33,q34,m1⟩:=q
         simp [q1,q3,q32,q33,q34,num]
         refine LoopNext.mk (i+1) h1 (by omega) (Le.mk _ _ ?_ ?_)
         · simp [num,q1,q3,q32,q33,q34,wi]
         · rw [hst];simp [m1,m]
       all_goals simp [num,tx,U3,hx,MObj.kill]
     · have e:i=is.length:=by omega
       subst e
       have ht:ps.take is.length=ps:=List.take_of_length_le (by omega)
       rw [W5,if_neg n1,if_neg n2,if_neg n3,if_neg n4,if_pos rfl] at hr
       simp [num,tx,U3]
       refine n0 (by simp [O1,avOf];exact ⟨List.take_of_length_le (by simp;omega),rfl⟩) rfl (.inr rfl) (c2l ps [44] (by omega) (by omega)) ?_
       have h5:is.map jtx=ps:=by rw [← hps,a0t (by decide)]
       rw [h5] at hr
       simp [num,tx,U3,x6,R1,a8]
       refine ⟨by omega,by omega,by rw [← hr]⟩
 · simp [d3,x8,M5,a7,c8,tx,num,n1,n2,n3,n4]
   refine O6 (X:=Nat) (fun i=>⟨P6 [(1,.ptr 1 0),(3,.own 30),(32,.val (.list 5 (is.map I9))),(33,.val (num is.length)),(34,.val (num i))],P3 [(1,U3 6 n t ns is),(30,.row 9 1 ((ps.take i).map tx))]⟩) (fun i=>i≤is.length) (fun i=>is.length - i) 0 (Le.mk _ _ ?_ ?_) ?_ ?_
   · simp [upd,num,tx,PV.kill]
   · simp [tx,num,U3,MObj.kill]
   · simp
   · intro i hi
     simp [num,tx]
     refine O7 (fun h1=>?_) (fun h1=>?_)
     · obtain ⟨g1,g2⟩:=hget i h1
       have hst:(ps.take (i+1)).map tx=(ps.take i).map tx++[tx (a1x 6 ns is[i] i)]:=by
        rw [List.take_add_one,List.getElem?_eq_getElem (by omega),g2,List.map_append];rfl
       have wi:IntKind.i64.wrap ((i:Int)+1)=((i+1:Nat):Int):=by rw [wrap_i64 (by omega) (by omega)];omega
       have hC:=hCs is[i] (List.getElem_mem h1)
       have hil:=(a2u hd hkk hl hs i).2 _ (List.getElem_mem h1)
       obtain ⟨⟨k',n',t',ns',is'⟩,hx⟩:∃ x,is[i]=x:=⟨_,rfl⟩
       have hC':=hC
       rw [hx,m7] at hC'
       simp [num,tx,h1,hx,m7]
       refine n0 rfl rfl (.inl rfl) hC' ?_
       simp [num,tx]
       refine b71 6 n t ns is i (ps.take i) (by simp;omega) h1 (by omega) h6 (fun st' q m=>?_) _ ⟨?_,?_,?_,?_,?_,?_⟩ ?_ ?_ ?_
       · obtain ⟨q1,q3,q32,q33,q34,m1⟩:=q
         simp [q1,q3,q32,q33,q34,num]
         refine LoopNext.mk (i+1) h1 (by omega) (Le.mk _ _ ?_ ?_)
         · simp [num,q1,q3,q32,q33,q34,wi]
         · rw [hst];simp [m1,m]
       all_goals simp [num,tx,U3,hx,MObj.kill]
     · have e:i=is.length:=by omega
       subst e
       have ht:ps.take is.length=ps:=List.take_of_length_le (by omega)
       rw [W5,if_neg n1,if_neg n2,if_neg n3,if_neg n4,if_neg (by decide)] at hr
       simp [num,tx,U3]
       refine n0 (by simp [O1,avOf];exact ⟨List.take_of_length_le (by simp;omega),rfl⟩) rfl (.inr rfl) (c2l ps [44] (by omega) (by omega)) ?_
       rw [hps] at hr
       simp [num,tx,U3,x6,R1,a8]
       refine ⟨by omega,by omega,by rw [← hr]⟩
theorem b66:∀ (d:Nat) (j:LJson),d≤4→Q2 d j→n7 Tryz.prog 60 [.val (I9 j)] (.ret (.val (tx (jtx j))) []) []
 | d,.mk k n t ns is,hd,h=>by
  unfold Q2 at h
  rcases h with ⟨rfl,rfl,rfl,rfl,rfl⟩ | ⟨rfl,hb,rfl,rfl,rfl⟩ | ⟨rfl,h1,rfl,rfl,rfl⟩ | ⟨rfl,rfl,h1,rfl,rfl⟩ | ⟨rfl,rfl,hl,hkk0,hs0⟩
  · refine J0 mixed ok60 rfl (fun _=>rfl) ?_
    unfold ir60
    rw [b7,m7]
    simp [d3,x8,M5,a7,c8,tx,num,W5,jnull,x6]
  · rcases hb with rfl | rfl
    · refine J0 mixed ok60 rfl (fun _=>rfl) ?_
      unfold ir60
      rw [b7,m7]
      simp [d3,x8,M5,a7,c8,tx,num,W5,jfalse,x6]
    · refine J0 mixed ok60 rfl (fun _=>rfl) ?_
      unfold ir60
      rw [b7,m7]
      simp [d3,x8,M5,a7,c8,tx,num,W5,jtrue,x6]
  · refine J0 mixed ok60 rfl (fun _=>rfl) ?_
    unfold ir60
    rw [b7,m7]
    simp [d3,x8,M5,a7,c8,tx,num]
    refine n0 rfl rfl (.inl rfl) (b96 n (by omega) (by omega)) ?_
    simp [W5,tx]
  · refine J0 mixed ok60 rfl (fun _=>rfl) ?_
    unfold ir60
    rw [b7,m7]
    simp [d3,x8,M5,a7,c8,tx,num]
    refine n0 rfl rfl (.inl rfl) (b81 t (by omega)) ?_
    simp [W5,tx]
  · cases d with
    | zero=>exact hs0.elim
    | succ d=>
    have hs:∀ x∈is,Q2 d x:=hs0
    have hkk:k=5∨(k=6∧ns.length=is.length∧∀ s∈ns,s.length≤120):=by
     rcases hkk0 with ⟨h,_⟩ | ⟨h,h2,_,h4⟩
     · exact .inl h
     · exact .inr ⟨h,h2,h4⟩
    exact c00 k 0 [] ns is (by omega) hkk hl hs (fun x hx=>b66 d x (by omega) (hs x hx))
end
end Go.Proofs
end
section
namespace Go.Proofs
open Go.PW Go.KP
attribute [local simp] RV.cells RV.one PV.cells PV.solid PV.one J2 a6 N0 N1 RV.ofCells elems PV.killL
variable [GF]
def U7:Nat→LJson→Bool
 | 0,_=>false
 | d+1,.mk k n t ns is=>if k=5∨k=6 then decide (0 < d) && is.all (U7 d) else true
theorem b3o (g:Nat) (k n:Int) (t:Tx) (d:Nat) (hd:d≤5) (h:Q2 g (.mk k n t [] [])) (hk:¬ (k=5∨k=6)):n7 Tryz.prog 255 [.val (I9 (.mk k n t [] [])),.val (num ((d+1:Nat):Int))] (.ret (.val (.bool true)) []) []:=by
 unfold Q2 at h
 refine J0 mixed ok255 rfl (fun _=>rfl) ?_
 unfold ir255
 rw [b7,m7]
 rcases h with ⟨rfl,rfl,rfl,_,_⟩ | ⟨rfl,hb,rfl,_,_⟩ | ⟨rfl,h1,rfl,_,_⟩ | ⟨rfl,rfl,h1,_,_⟩ | ⟨rfl,rfl,hl,hkk0,hs0⟩
 · simp [d3,x8,M5,a7,c8,tx,num,x6,Q3]
 · simp [d3,x8,M5,a7,c8,tx,num,x6,Q3]
   refine n0 rfl rfl (.inl rfl) (a6w .i64 n 0 1) ?_
   rcases hb with rfl | rfl<;>simp [d3,x8,M5,a7,c8,tx,num,x6,Q3]
 · simp [d3,x8,M5,a7,c8,tx,num,x6,Q3]
   refine n0 rfl rfl (.inl rfl) (a6w .i64 n (-999999999) 999999999) ?_
   simp [d3,x8,M5,a7,c8,tx,num,x6,Q3,h1]
 · have h2:(t.length:Int)≤120:=by omega
   simp [d3,x8,M5,a7,c8,tx,num,x6,Q3,a8,h1,h2]
 · rcases hkk0 with ⟨h,_⟩ | ⟨h,_⟩<;>exact absurd (by simp [h]) hk
theorem b3n (d:Nat) (k:Int) (ns:List Tx) (is:List LJson) (hd:d≤5) (hl:is.length≤12) (hk:k=5∧ns=[]∨k=6∧ns.length=is.length∧ns.Nodup∧∀ s∈ns,s.length≤120)
 (hCs:0 < d→∀ x∈is,n7 Tryz.prog 255 [.val (I9 x),.val (num (d:Int))] (.ret (.val (.bool (U7 d x))) []) []):n7 Tryz.prog 255 [.val (I9 (.mk k 0 [] ns is)),.val (num ((d+1:Nat):Int))] (.ret (.val (.bool (decide (0 < d) && is.all (U7 d)))) []) []:=by
 obtain ⟨R,hR⟩:∃ R,(decide (0 < d) && is.all (U7 d))=R:=⟨_,rfl⟩
 rw [hR]
 refine J0 mixed ok255 rfl (fun _=>rfl) ?_
 have hl':¬ (12:Int) < (is.length:Int):=by omega
 rcases Nat.eq_zero_or_pos d with rfl | hd0
 · simp at hR
   subst hR
   unfold ir255
   rw [b7,m7]
   rcases hk with ⟨rfl,rfl⟩ | ⟨rfl,hn,hnd,hns⟩
   · simp [d3,x8,M5,a7,c8,tx,num,x6,Q3]
   · simp [d3,x8,M5,a7,c8,tx,num,x6,Q3]
     refine O7 (fun h=>?_) (fun h=>?_)
     all_goals simp [d3,x8,M5,a7,c8,tx,num,x6,Q3,h]
 · have hd1:¬ (d:Int)+1=1:=by omega
   have hd2:¬ d=0:=by omega
   obtain ⟨Z,hZ⟩:∃ Z,a45 [.t 4] (.val (.bool R))=Z:=⟨_,rfl⟩
   rw [hZ]
   unfold ir255
   rw [b7,m7]
   rcases hk with ⟨rfl,rfl⟩ | ⟨rfl,hn,hnd,hns⟩
   · simp [d3,x8,M5,a7,c8,tx,num,x6,Q3,hd1,hd2,hl,hl']
     refine O6 (X:=Nat) (fun i=>⟨P6 [(1,.val (num ((d:Int)+1))),(2,.ptr 2 0),(6,.val (num (i:Int)))],P3 [(2,.box [.val (num 5),.val (num 0),.val (tx []),.val (.list 1 []),.val (.list 5 (is.map I9))])]⟩)
      (fun i=>i≤is.length∧∀ j (h:j < is.length),j < i→U7 d is[j]=true) (fun i=>is.length - i) 0 (Le.mk _ _ ?_ ?_) ⟨Nat.zero_le _,fun j _ h=>absurd h (Nat.not_lt_zero _)⟩ ?_
     · simp [num,tx,PV.kill]
     · simp [num,tx,MObj.kill,PV.kill,PV.killL,x6]
     · rintro i ⟨hi,hall⟩
       have wi:IntKind.i64.wrap ((i:Int)+1)=((i+1:Nat):Int):=by rw [wrap_i64 (by omega) (by omega)];omega
       have wd:IntKind.i64.wrap (d:Int)=(d:Int):=wrap_i64 (by omega) (by omega)
       by_cases h1:i < is.length
       · have hC:=hCs hd0 is[i] (List.getElem_mem h1)
         obtain ⟨y,hy⟩:∃ y,is[i]=y:=⟨_,rfl⟩
         obtain ⟨b,hb⟩:∃ b,U7 d is[i]=b:=⟨_,rfl⟩
         rw [hb,hy] at hC
         obtain ⟨a1,a2,a3,a4,a5⟩:=y
         rw [m7] at hC
         simp [num,tx,h1,hy,m7,wd]
         refine S9 rfl rfl (.inl rfl) hC ?_
         cases b with
         | true=>
          simp [num,tx,h1,hy,m7]
          refine LoopNext.mk (i+1) ⟨h1,fun j hj hji=>?_⟩ (by omega) (Le.mk _ _ ?_ ?_)
          · by_cases e:j=i
            · subst e;exact hb
            · exact hall j hj (by omega)
          · simp [num,wi,tx]
          · simp [num,tx]
         | false=>
          simp [num,tx,h1,hy,m7]
          have hf:R=false:=by
           rw [← hR]
           have:is.all (U7 d)=false:=by
            rw [Bool.eq_false_iff];intro ha
            have:=List.all_eq_true.1 ha is[i] (List.getElem_mem h1)
            rw [hb] at this;cases this
           rw [this,Bool.and_false]
          rw [← hZ,hf]
          simp [num,tx]
       · have ht:R=true:=by
          rw [← hR,decide_eq_true hd0,Bool.true_and,List.all_eq_true]
          intro x hx
          obtain ⟨j,hj,rfl⟩:=List.mem_iff_getElem.1 hx
          exact hall j hj (by omega)
         simp [num,tx,h1]
         rw [← hZ,ht]
         simp [num,tx]
   · have hnl:(ns.length:Int)=(is.length:Int):=by omega
     by_cases en:is=[]
     · subst en
       have hns0:ns=[]:=List.eq_nil_of_length_eq_zero hn
       subst hns0
       have ht:R=true:=by rw [← hR,decide_eq_true hd0];rfl
       simp [d3,x8,M5,a7,c8,tx,num,x6,Q3,hd1,hd2]
       refine O6 (X:=Unit) (fun _=>⟨P6 [(1,.val (num ((d:Int)+1))),(2,.ptr 2 0),(6,.val (num 0))],P3 [(2,.box [.val (num 6),.val (num 0),.val (tx []),.val (.list 1 []),.val (.list 5 [])])]⟩) (fun _=>True) (fun _=>0) () (Le.mk _ _ ?_ ?_) trivial ?_
       · simp [num,tx,PV.kill]
       · simp [num,tx,MObj.kill,PV.kill,PV.killL,x6]
       · rintro _ _
         simp [num,tx]
         rw [← hZ,ht]
         simp [num,tx]
     · have en2:¬ ns=[]:=fun h=>en (List.eq_nil_of_length_eq_zero (by rw [← hn,h];rfl))
       simp [d3,x8,M5,a7,c8,tx,num,x6,Q3,hd1,hd2,hl,hl',hn,en,en2]
       refine O6 (X:=Nat) (fun i=>⟨P6 [(1,.val (num ((d:Int)+1))),(2,.ptr 2 0),(6,.val (num (i:Int)))],P3 [(2,.box [.val (num 6),.val (num 0),.val (tx []),.val (.list 1 (ns.map tx)),.val (.list 5 (is.map I9))])]⟩)
        (fun i=>i≤is.length∧∀ j (h:j < is.length),j < i→U7 d is[j]=true) (fun i=>is.length - i) 0 (Le.mk _ _ ?_ ?_) ⟨Nat.zero_le _,fun j _ h=>absurd h (Nat.not_lt_zero _)⟩ ?_
       · simp [num,tx,PV.kill]
       · simp [num,tx,MObj.kill,PV.kill,PV.killL,x6]
       · rintro i ⟨hi,hall⟩
         have wi:IntKind.i64.wrap ((i:Int)+1)=((i+1:Nat):Int):=by rw [wrap_i64 (by omega) (by omega)];omega
         have wd:IntKind.i64.wrap (d:Int)=(d:Int):=wrap_i64 (by omega) (by omega)
         by_cases h1:i < is.length
         · have hC:=hCs hd0 is[i] (List.getElem_mem h1)
           obtain ⟨y,hy⟩:∃ y,is[i]=y:=⟨_,rfl⟩
           obtain ⟨b,hb⟩:∃ b,U7 d is[i]=b:=⟨_,rfl⟩
           rw [hb,hy] at hC
           obtain ⟨a1,a2,a3,a4,a5⟩:=y
           rw [m7] at hC
           have h2:i < ns.length:=by omega
           obtain ⟨u,hu⟩:∃ u,ns[i]=u:=⟨_,rfl⟩
           have hul:u.length≤120:=by rw [← hu];exact hns _ (List.getElem_mem h2)
           have hul':¬ (120:Int) < (u.length:Int):=by omega
           have hH:=b5v (ns.take i) u (by rw [List.length_take];omega)
           have hun:u∉ns.take i:=by
            rw [← hu]
            intro hm
            obtain ⟨q,hq,he⟩:=List.mem_iff_getElem.1 hm
            rw [List.length_take] at hq
            rw [List.getElem_take] at he
            have:=(List.getElem_inj hnd).1 he
            omega
           rw [decide_eq_false hun] at hH
           simp [num,tx,h1,hy,m7,wd]
           refine S9 rfl rfl (.inl rfl) hC ?_
           cases b with
           | true=>
            simp [num,tx,h1,h2,hy,hu,hul',a8,m7]
            refine ⟨by omega,?_⟩
            refine S9 (by simp [O1,avOf,tx]) rfl (.inl rfl) hH ?_
            simp [num,tx,h1,h2,hy,hu,hul',a8,m7]
            refine LoopNext.mk (i+1) ⟨h1,fun j hj hji=>?_⟩ (by omega) (Le.mk _ _ ?_ ?_)
            · by_cases e:j=i
              · subst e;exact hb
              · exact hall j hj (by omega)
            · simp [num,wi,tx]
            · simp [num,tx]
           | false=>
            simp [num,tx,h1,hy,m7]
            have hf:R=false:=by
             rw [← hR]
             have:is.all (U7 d)=false:=by
              rw [Bool.eq_false_iff];intro ha
              have:=List.all_eq_true.1 ha is[i] (List.getElem_mem h1)
              rw [hb] at this;cases this
             rw [this,Bool.and_false]
            rw [← hZ,hf]
            simp [num,tx]
         · have ht:R=true:=by
            rw [← hR,decide_eq_true hd0,Bool.true_and,List.all_eq_true]
            intro x hx
            obtain ⟨j,hj,rfl⟩:=List.mem_iff_getElem.1 hx
            exact hall j hj (by omega)
           simp [num,tx,h1]
           rw [← hZ,ht]
           simp [num,tx]
theorem b84:∀ (d g:Nat) (j:LJson),d≤5→Q2 g j→n7 Tryz.prog 255 [.val (I9 j),.val (num ((d+1:Nat):Int))] (.ret (.val (.bool (U7 (d+1) j))) []) []
 | d,g,.mk k n t ns is,hd,h=>by
  by_cases hk:k=5∨k=6
  · have h':=h
    unfold Q2 at h'
    rcases h' with ⟨rfl,_⟩ | ⟨rfl,_⟩ | ⟨rfl,_⟩ | ⟨rfl,_⟩ | ⟨rfl,rfl,hl,hkk,hs⟩
    · exact absurd hk (by decide)
    · exact absurd hk (by decide)
    · exact absurd hk (by decide)
    · exact absurd hk (by decide)
    · have e:U7 (d+1) (.mk k 0 [] ns is)=(decide (0 < d) && is.all (U7 d)):=by rw [U7,if_pos hk]
      rw [e]
      refine b3n d k ns is hd hl hkk (fun hd0 x hx=>?_)
      cases g with
      | zero=>exact hs.elim
      | succ g=>
       match d,hd0 with
       | d+1,_=>exact b84 d g x (by omega) (hs x hx)
  · have e:U7 (d+1) (.mk k n t ns is)=true:=by rw [U7,if_neg hk]
    rw [e]
    have h':=h
    unfold Q2 at h'
    have hn:ns=[]∧is=[]:=by
     rcases h' with ⟨_,_,_,h1,h2⟩ | ⟨_,_,_,h1,h2⟩ | ⟨_,_,_,h1,h2⟩ | ⟨_,_,_,h1,h2⟩ | ⟨_,_,_,⟨h1,_⟩ | ⟨h1,_⟩,_⟩
     · exact ⟨h1,h2⟩
     · exact ⟨h1,h2⟩
     · exact ⟨h1,h2⟩
     · exact ⟨h1,h2⟩
     · exact absurd (.inl h1) hk
     · exact absurd (.inr h1) hk
    obtain ⟨rfl,rfl⟩:=hn
    exact b3o g k n t d hd h hk
end Go.Proofs
end
section
namespace Go.Proofs
open Go.PW Go.KP
attribute [local simp] RV.cells RV.one PV.cells PV.solid PV.one J2 a6 N0 N1 RV.ofCells elems PV.killL
variable [GF]
def b8u (t:Tx):Bool:=decide ((Q0 t).2=0) && (decide ((Q0 t).1.kind=6) && (U7 3 (Q0 t).1 && decide (jtx (Q0 t).1=t)))
theorem c0m (t:Tx) (ht:t.length≤1048576):n7 Tryz.prog 225 [.val (tx t)] (.ret (.val (.bool (b8u t))) []) []:=by
 refine J0 mixed ok225 rfl (fun _=>rfl) ?_
 have hr:=b18 t ht
 unfold b9j at hr
 have hg:(Q0 t).1.kind=6→Q2 4 (Q0 t).1:=fun h=>by
  unfold Q0 at h ⊢
  cases hj:a5e t with
  | ok x k=>exact a6m hj
  | err c=>rw [hj] at h;simp [LJson.kind] at h
 unfold ir225 b8u
 obtain ⟨J,hJ⟩:∃ J,Q0 t=J:=⟨_,rfl⟩
 rw [hJ] at hr hg ⊢
 obtain ⟨⟨k,n,tt,ns,is⟩,c⟩:=J
 simp only [LJson.kind] at hr hg ⊢
 rw [b7]
 rw [m7] at hr
 simp [d3,x8,M5,a7,c8,num,tx,x6]
 refine T0 rfl rfl (.inl rfl) hr ?_
 simp [num,tx]
 by_cases h0:c=0
 · by_cases h6:k=6
   · have hgd:=hg h6
     have h1:=b84 2 4 _ (by omega) hgd
     have h2:=a54 4 _ (by omega) hgd
     rw [m7] at h1 h2
     simp [num,tx,h0,h6]
     rw [h6] at h1 h2 ⊢
     refine n0 rfl rfl (.inl rfl) h1 ?_
     cases hd:U7 3 (.mk 6 n tt ns is) with
     | true=>
      simp [num,tx,h0,h6,hd]
      refine n0 rfl rfl (.inl rfl) h2 ?_
      simp [num,tx,h0,h6,hd,Q3]
     | false=>
      simp [num,tx,h0,h6,hd]
   · simp [num,tx,h0,h6]
 · simp [num,tx,h0]
def pOK (a b:Int) (t:Tx):Bool:=decide (1≤a∧a≤1000000) && (decide (0≤b∧b≤1000000) && (decide (t.length≤8000) && b8u t))
theorem c_l10OK (a b:Int) (t:Tx):n7 Tryz.prog 178 [.val (.agg [num a,num b,tx t])] (.ret (.val (.bool (pOK a b t))) []) []:=by
 refine J0 mixed ok178 rfl (fun _=>rfl) ?_
 unfold ir178 pOK
 rw [b7]
 simp [d3,x8,M5,a7,c8,num,tx,x6,a8]
 refine n0 rfl rfl (.inl rfl) (a6w .i64 a 1 1000000) ?_
 by_cases h1:1≤a∧a≤1000000
 · rw [decide_eq_true h1]
   simp [num,tx]
   refine n0 rfl rfl (.inl rfl) (a6w .i64 b 0 1000000) ?_
   by_cases h2:0≤b∧b≤1000000
   · rw [decide_eq_true h2]
     by_cases h3:t.length≤8000
     · have h3':(t.length:Int)≤8000:=by omega
       simp [num,tx,a8,h3,h3']
       refine n0 rfl rfl (.inl rfl) (c0m t (by omega)) ?_
       simp [num,tx,h3]
     · have h3':¬ (t.length:Int)≤8000:=by omega
       simp [num,tx,a8,h3,h3']
   · rw [decide_eq_false h2]
     simp [num,tx]
 · rw [decide_eq_false h1]
   simp [num,tx]
end Go.Proofs
end
section
namespace Go.Proofs
open Go.PW Go.KP
attribute [local simp] RV.cells RV.one PV.cells PV.solid PV.one J2 a6 N0 N1 RV.ofCells elems PV.killL
variable [GH]
theorem a5t (l:List LJson) (g:Nat) (c0:RV) (p:LJson→Bool) (hl:l.length < 1099511627776) (hg:fnB Tryz.prog g=true)
 (hp:∀ x∈l,n7 Tryz.prog g [.val (I9 x),.box [c0]] (.ret (.val (.bool (p x))) []) [[c0]]) :
 n7 Tryz.prog 235 [.val (.list 5 (l.map I9)),.fn g [.box [c0]]] (.ret (.val (num (a3o l p))) []) [[c0]]:=by
 refine a7m mixed ok235 rfl (fun _=>rfl) ?_
 unfold ir235
 rw [b7]
 simp [d3,x8,M5,a7,c8,M5,x8]
 refine O6 (X:=Nat) (fun i=>⟨P6 [(0,.val (.list 5 (l.map I9))),(1,.fn g [.ptr 900 0]),(7,.val (num l.length)),(8,.val (num i))],P3 [(900,.box [.val c0])]⟩) (fun i=>i≤l.length∧∀ k (hk:k < i) (hk':k < l.length),p l[k]=false) (fun i=>l.length - i) 0 (Le.mk _ _ ?_ ?_) ?_ ?_
 · simp [upd,num]
 · simp
 · simp
 · rintro i ⟨hi,hne⟩
   simp [num]
   refine O7 (fun h1=>?_) (fun h1=>?_)
   · have hc:=hp l[i] (List.getElem_mem h1)
     obtain ⟨x,hx⟩:∃ x,l[i]=x:=⟨_,rfl⟩
     have hpx:p l[i]=p x:=by rw [hx]
     rw [hx] at hc
     obtain ⟨a1,a2,a3,a4,a5⟩:=x
     rw [m7] at hc
     simp [num,h1,hx,m7,tx,hg]
     refine a5z (ids:=[900]) rfl rfl (by simp) (by decide) (by simp [b0r,v6,E3,v8,E1,w5,l8,v7,E2,f6,y7,F0,F1,b8,l3,l4,d8,w6,l7,f5,D9,u9,l6,l5,C1,C2,S0,S1,Option.getD_some,Option.getD_none,A8,n8,k7,B8,k6,j4,C0,j5,B9,B7,B6,F5,t7,j8,B4,s9,j7,B3,A6,B5,t6,B1,j3,s8,B2,F7,F6,A7,A9,j6,B0,t8,j9,z1,f8,A5,A4,A3,F2,q7,i6,A1,p8,f9,A0,y8,A2,p9,z7,f7,p7,z8,F4,F3,y9,p6,i8,z6,s7,i7,H5,H4,I6,H6,I0,H8,H7,I5,H9,I1,I2,I3,I4,x1,w9,w8,J5,J6,J4,E4,n9,C6,u1,I8,l9,N4,J9,J3,L4,L6,L5,N5,N6,G7,G9,G8,H0,H1,K9,u3,K8,C7,C8,C9,u4,S3,D6,u7,N2,N3,F8,J7,J8,Option.map_some,Option.map_none,D0,u5,u0,k8,C4,C5,G0,F9,M2,M1,H3,D7,D8,H2,L7,L8,G3,l1,G4,k9,K4,D5,D4,d9,L3,L9,G6,K5,K7,K6,u2,x9,y6,y0,d4,L2,N8,N7,K2,G5,O9,K3,l2,D2,D3,u6,D1,d7,o0,d6,o9,d5,I7,M3,M4,x4,x5,E6,E5,C3]) rfl hc ?_
     cases hpi:p (.mk a1 a2 a3 a4 a5) with
     | true=>
      simp [a6z,T7]
      rw [a9q h1 (by rw [hpx,hpi]) (fun k hk=>hne k hk (by omega))];rfl
     | false=>
      simp
      refine LoopNext.mk (i+1) ⟨by omega,fun k hk hk'=>?_⟩ (by omega) (Le.mk _ _ ?_ ?_)
      · by_cases e:k=i
        · subst e;rw [hpx,hpi]
        · exact hne k (by omega) hk'
      · simp [num];exact wrap_i64 (by omega) (by omega)
      · simp
   · have e:i=l.length:=by omega
     subst e
     simp [num,a6z,T7]
     rw [a7f (fun k hk=>hne k hk hk)]
theorem a3p (l:List LJson) (g:Nat) (c0:RV) (p:LJson→Bool) (hl:l.length < 1099511627776) (hg:fnB Tryz.prog g=true)
 (hp:∀ x∈l,n7 Tryz.prog g [.val (I9 x),.box [c0]] (.ret (.val (.bool (p x))) []) [[c0]]) :
 n7 Tryz.prog 187 [.val (.list 5 (l.map I9)),.fn g [.box [c0]]] (.ret (.val (.bool (l.any p))) []) [[c0]]:=by
 refine a7m mixed ok187 rfl (fun _=>rfl) ?_
 unfold ir187
 rw [b7]
 simp [d3,x8,M5,a7,c8,M5,x8]
 refine a5z (ids:=[900]) rfl rfl (by simp) (by decide) (by simp [b0r,v6,E3,v8,E1,w5,l8,v7,E2,f6,y7,F0,F1,b8,l3,l4,d8,w6,l7,f5,D9,u9,l6,l5,C1,C2,S0,S1,Option.getD_some,Option.getD_none,A8,n8,k7,B8,k6,j4,C0,j5,B9,B7,B6,F5,t7,j8,B4,s9,j7,B3,A6,B5,t6,B1,j3,s8,B2,F7,F6,A7,A9,j6,B0,t8,j9,z1,f8,A5,A4,A3,F2,q7,i6,A1,p8,f9,A0,y8,A2,p9,z7,f7,p7,z8,F4,F3,y9,p6,i8,z6,s7,i7,H5,H4,I6,H6,I0,H8,H7,I5,H9,I1,I2,I3,I4,x1,w9,w8,J5,J6,J4,E4,n9,C6,u1,I8,l9,N4,J9,J3,L4,L6,L5,N5,N6,G7,G9,G8,H0,H1,K9,u3,K8,C7,C8,C9,u4,S3,D6,u7,N2,N3,F8,J7,J8,Option.map_some,Option.map_none,D0,u5,u0,k8,C4,C5,G0,F9,M2,M1,H3,D7,D8,H2,L7,L8,G3,l1,G4,k9,K4,D5,D4,d9,L3,L9,G6,K5,K7,K6,u2,x9,y6,y0,d4,L2,N8,N7,K2,G5,O9,K3,l2,D2,D3,u6,D1,d7,o0,d6,o9,d5,I7,M3,M4,x4,x5,E6,E5,C3]) rfl (a5t l g c0 p hl hg hp) ?_
 simp [num,a6z,T7]
 exact b8n l p
theorem Z9 {K:Kx (PExit→St→Prop)} (d:Nat) (k n:Int) (t:Tx) (ns:List Tx) (is:List LJson) (hd:d≤5) (hl:is.length≤12) (hnl:ns.length≤12) (hnd:ns.Nodup) (hns:∀ s∈ns,s.length≤120)
 (hC:∀ x∈is,n7 Tryz.prog 124 [.val (I9 x),.val (num (d:Int))] (.ret (.val (.bool (U7 d x))) []) [])
 (st:St) (e2:st.env 2=.ptr 2 0) (e3:st.env 3=.ptr 3 0) (m2:st.mem 2=.box [.val (num k),.val (num n),.val (tx t),.val (.list 1 (ns.map tx)),.val (.list 5 (is.map I9))]) (m3:st.mem 3=.box [.val (num ((d:Int)+1))])
 (hK:∀ st':St,st'.env 4=.val (.bool (is.all (U7 d)))→K.k .ret st'):EC Tryz.prog ir124_from5 st (K:=K):=by
 unfold ir124_from5
 simp [e2,e3,m2,m3,num,tx]
 refine O6 (X:=Nat) (fun i=>⟨P6 [(2,.ptr 2 0),(3,.ptr 3 0),(86,.val (.list 1 (ns.map tx))),(87,.val (num ns.length)),(88,.val (num i))],P3 [(2,.box [.val (num k),.val (num n),.val (tx t),.val (.list 1 (ns.map tx)),.val (.list 5 (is.map I9))]),(3,.box [.val (num ((d:Int)+1))])]⟩) (fun i=>i≤ns.length) (fun i=>ns.length - i) 0 (Le.mk _ _ ?_ ?_) (Nat.zero_le _) ?_
 · simp [e2,e3,num,tx,PV.kill]
 · simp [m2,m3,num,tx,MObj.kill,PV.kill,PV.killL]
 · intro i hi
   by_cases h1:i < ns.length
   · obtain ⟨u,hu⟩:∃ u,ns[i]=u:=⟨_,rfl⟩
     have hul:u.length≤120:=by rw [← hu];exact hns _ (List.getElem_mem h1)
     have hul':¬ (120:Int) < (u.length:Int):=by omega
     have hH:=a35 (ns.take i) u (by rw [List.length_take];omega)
     have hun:u∉ns.take i:=by
      rw [← hu]
      intro hm
      obtain ⟨q,hq,he⟩:=List.mem_iff_getElem.1 hm
      rw [List.length_take] at hq
      rw [List.getElem_take] at he
      have:=(List.getElem_inj hnd).1 he
      omega
     simp only [hun,decide_false,List.map_take] at hH
     have wi:IntKind.i64.wrap ((i:Int)+1)=((i+1:Nat):Int):=by rw [wrap_i64 (by omega) (by omega)];omega
     simp [num,tx,h1,hu,hul',a8]
     refine ⟨by omega,?_⟩
     refine n0 rfl rfl (.inl rfl) hH ?_
     simp [num,tx,h1,hu,hul',a8]
     refine LoopNext.mk (i+1) h1 (by omega) (Le.mk _ _ ?_ ?_)
     · simp [num,wi,tx]
     · simp [num,tx]
   · have hCF:=a3p is 188 (num ((d:Int)+1)) (fun x=>!U7 d x) (by omega) (by kernel_rfl) (fun x hx=>by
      have hc:=hC x hx
      obtain ⟨b,hb⟩:∃ b,U7 d x=b:=⟨_,rfl⟩
      rw [hb] at hc ⊢
      obtain ⟨a1,a2,a3,a4,a5⟩:=x
      refine a7m mixed ok188 rfl (fun _=>rfl) ?_
      have wd:IntKind.i64.wrap (d:Int)=(d:Int):=wrap_i64 (by omega) (by omega)
      unfold ir188
      rw [m7] at hc ⊢
      rw [b7]
      simp [d3,x8,M5,a7,c8,tx,num,M5,x8,wd]
      refine n0 rfl rfl (.inl rfl) hc ?_
      simp [num,tx,a6z,T7])
     simp [num,tx,h1]
     refine a5z (ids:=[3]) rfl rfl (by simp) (by decide) (by simp [b0r,v6,E3,v8,E1,w5,l8,v7,E2,f6,y7,F0,F1,b8,l3,l4,d8,w6,l7,f5,D9,u9,l6,l5,C1,C2,S0,S1,Option.getD_some,Option.getD_none,A8,n8,k7,B8,k6,j4,C0,j5,B9,B7,B6,F5,t7,j8,B4,s9,j7,B3,A6,B5,t6,B1,j3,s8,B2,F7,F6,A7,A9,j6,B0,t8,j9,z1,f8,A5,A4,A3,F2,q7,i6,A1,p8,f9,A0,y8,A2,p9,z7,f7,p7,z8,F4,F3,y9,p6,i8,z6,s7,i7,H5,H4,I6,H6,I0,H8,H7,I5,H9,I1,I2,I3,I4,x1,w9,w8,J5,J6,J4,E4,n9,C6,u1,I8,l9,N4,J9,J3,L4,L6,L5,N5,N6,G7,G9,G8,H0,H1,K9,u3,K8,C7,C8,C9,u4,S3,D6,u7,N2,N3,F8,J7,J8,Option.map_some,Option.map_none,D0,u5,u0,k8,C4,C5,G0,F9,M2,M1,H3,D7,D8,H2,L7,L8,G3,l1,G4,k9,K4,D5,D4,d9,L3,L9,G6,K5,K7,K6,u2,x9,y6,y0,d4,L2,N8,N7,K2,G5,O9,K3,l2,D2,D3,u6,D1,d7,o0,d6,o9,d5,I7,M3,M4,x4,x5,E6,E5,C3,tx,num]) rfl hCF ?_
     simp [num,tx]
     refine hK _ ?_
     simp [List.all_eq_not_any_not]
theorem b3g (d g:Nat) (k n:Int) (t:Tx) (hd:d≤5) (h:Q2 g (.mk k n t [] [])) (hk:¬ (k=5∨k=6)):n7 Tryz.prog 124 [.val (I9 (.mk k n t [] [])),.val (num ((d+1:Nat):Int))] (.ret (.val (.bool true)) []) []:=by
 unfold Q2 at h
 refine J0 mixed ok124 rfl (fun _=>rfl) ?_
 have hd1:¬ (d:Int)+1=0:=by omega
 unfold ir124
 rw [b7,m7]
 rcases h with ⟨rfl,rfl,rfl,_,_⟩ | ⟨rfl,hb,rfl,_,_⟩ | ⟨rfl,h1,rfl,_,_⟩ | ⟨rfl,rfl,h1,_,_⟩ | ⟨rfl,rfl,hl,hkk0,hs0⟩
 · simp [d3,x8,M5,a7,c8,tx,num,x6,Q3,hd1]
   refine Z9 d 1 0 [] [] [] hd (by simp) (by simp) (by simp) (by simp) (by simp) _ ?_ ?_ ?_ ?_ (fun st' h4=>by simp [h4])
   all_goals simp [num,tx,x6]
 · simp [d3,x8,M5,a7,c8,tx,num,x6,Q3,hd1]
   refine n0 rfl rfl (.inl rfl) (a0i n 0 1) ?_
   have h01:0≤n∧n≤1:=by omega
   simp [tx,num,x6,Q3,hd1,h01]
   refine Z9 d 2 n [] [] [] hd (by simp) (by simp) (by simp) (by simp) (by simp) _ ?_ ?_ ?_ ?_ (fun st' h4=>by simp [h4])
   all_goals simp [num,tx,x6]
 · simp [d3,x8,M5,a7,c8,tx,num,x6,Q3,hd1]
   refine n0 rfl rfl (.inl rfl) (a0i n (-999999999) 999999999) ?_
   simp [tx,num,x6,Q3,hd1,h1]
   refine Z9 d 3 n [] [] [] hd (by simp) (by simp) (by simp) (by simp) (by simp) _ ?_ ?_ ?_ ?_ (fun st' h4=>by simp [h4])
   all_goals simp [num,tx,x6]
 · have h2:(t.length:Int)≤120:=by omega
   simp [d3,x8,M5,a7,c8,tx,num,x6,Q3,a8,hd1,h2]
   refine Z9 d 4 0 t [] [] hd (by simp) (by simp) (by simp) (by simp) (by simp) _ ?_ ?_ ?_ ?_ (fun st' h4=>by simp [h4])
   all_goals simp [num,tx,x6]
 · rcases hkk0 with ⟨h,_⟩ | ⟨h,_⟩<;>exact absurd (by simp [h]) hk
theorem b3f (d:Nat) (k:Int) (ns:List Tx) (is:List LJson) (hd:d≤5) (hl:is.length≤12) (hk:k=5∧ns=[]∨k=6∧ns.length=is.length∧ns.Nodup∧∀ s∈ns,s.length≤120)
 (hCs:0 < d→∀ x∈is,n7 Tryz.prog 124 [.val (I9 x),.val (num (d:Int))] (.ret (.val (.bool (U7 d x))) []) []):n7 Tryz.prog 124 [.val (I9 (.mk k 0 [] ns is)),.val (num ((d+1:Nat):Int))] (.ret (.val (.bool (decide (0 < d) && is.all (U7 d)))) []) []:=by
 refine J0 mixed ok124 rfl (fun _=>rfl) ?_
 have hd1:¬ (d:Int)+1=0:=by omega
 have hl':(is.length:Int)≤12:=by omega
 unfold ir124
 rw [b7,m7]
 rcases Nat.eq_zero_or_pos d with rfl | hd0
 · rcases hk with ⟨rfl,rfl⟩ | ⟨rfl,hn,hnd,hns⟩
   · simp [d3,x8,M5,a7,c8,tx,num,x6,Q3,hl']
   · simp [d3,x8,M5,a7,c8,tx,num,x6,Q3,hl']
 · have hd2:¬ (d:Int)+1≤1:=by omega
   have hd3:(1:Int) < (d:Int)+1:=by omega
   rw [decide_eq_true hd0,Bool.true_and]
   rcases hk with ⟨rfl,rfl⟩ | ⟨rfl,hn,hnd,hns⟩
   · simp [d3,x8,M5,a7,c8,tx,num,x6,Q3,hl',hd1,hd2,hd3,hd0]
     refine Z9 d 5 0 [] [] is hd hl (by simp) (by simp) (by simp) (hCs hd0) _ ?_ ?_ ?_ ?_ (fun st' h4=>by simp [h4])
     all_goals simp [num,tx,x6]
   · have hnl:(ns.length:Int)=(is.length:Int):=by omega
     simp [d3,x8,M5,a7,c8,tx,num,x6,Q3,hl',hd1,hd2,hd3,hd0,hnl]
     refine Z9 d 6 0 [] ns is hd hl (by omega) hnd hns (hCs hd0) _ ?_ ?_ ?_ ?_ (fun st' h4=>by simp [h4])
     all_goals simp [num,tx,x6]
theorem b80:∀ (d g:Nat) (j:LJson),d≤5→Q2 g j→n7 Tryz.prog 124 [.val (I9 j),.val (num ((d+1:Nat):Int))] (.ret (.val (.bool (U7 (d+1) j))) []) []
 | d,g,.mk k n t ns is,hd,h=>by
  by_cases hk:k=5∨k=6
  · have h':=h
    unfold Q2 at h'
    rcases h' with ⟨rfl,_⟩ | ⟨rfl,_⟩ | ⟨rfl,_⟩ | ⟨rfl,_⟩ | ⟨rfl,rfl,hl,hkk,hs⟩
    · exact absurd hk (by decide)
    · exact absurd hk (by decide)
    · exact absurd hk (by decide)
    · exact absurd hk (by decide)
    · have e:U7 (d+1) (.mk k 0 [] ns is)=(decide (0 < d) && is.all (U7 d)):=by rw [U7,if_pos hk]
      rw [e]
      refine b3f d k ns is hd hl hkk (fun hd0 x hx=>?_)
      cases g with
      | zero=>exact hs.elim
      | succ g=>
       match d,hd0 with
       | d+1,_=>exact b80 d g x (by omega) (hs x hx)
  · have e:U7 (d+1) (.mk k n t ns is)=true:=by rw [U7,if_neg hk]
    rw [e]
    have h':=h
    unfold Q2 at h'
    have hn:ns=[]∧is=[]:=by
     rcases h' with ⟨_,_,_,h1,h2⟩ | ⟨_,_,_,h1,h2⟩ | ⟨_,_,_,h1,h2⟩ | ⟨_,_,_,h1,h2⟩ | ⟨_,_,_,⟨h1,_⟩ | ⟨h1,_⟩,_⟩
     · exact ⟨h1,h2⟩
     · exact ⟨h1,h2⟩
     · exact ⟨h1,h2⟩
     · exact ⟨h1,h2⟩
     · exact absurd (.inl h1) hk
     · exact absurd (.inr h1) hk
    obtain ⟨rfl,rfl⟩:=hn
    exact b3g d g k n t hd h hk
end Go.Proofs
end
section
namespace Go.Proofs
open Go.PW Go.KP
attribute [local simp] RV.cells RV.one PV.cells PV.solid PV.one J2 a6 N0 N1 RV.ofCells elems PV.killL
variable [GH]
theorem b68 (a b:Int) (t:Tx):n7 Tryz.prog 61 [.val (.agg [num a,num b,tx t])] (.ret (.val (.bool (pOK a b t))) []) []:=by
 refine J0 mixed ok61 rfl (fun _=>rfl) ?_
 unfold ir61 pOK
 rw [b7]
 simp [d3,x8,M5,a7,c8,num,tx,x6]
 refine n0 rfl rfl (.inl rfl) (a0i a 1 1000000) ?_
 by_cases h1:1≤a∧a≤1000000
 · rw [decide_eq_true h1]
   simp [num,tx]
   refine n0 rfl rfl (.inl rfl) (i_isNow b) ?_
   by_cases h2:0≤b∧b≤1000000
   · rw [decide_eq_true h2]
     by_cases h3:t.length≤8000
     · have h3':¬ (8000:Int) < (t.length:Int):=by omega
       have hr:=a94 t (by omega)
       have hg:(Q0 t).1.kind=6→Q2 4 (Q0 t).1:=fun h=>by
        unfold Q0 at h ⊢
        cases hj:a5e t with
        | ok x k=>exact a6m hj
        | err c=>rw [hj] at h;simp [LJson.kind] at h
       unfold rdP at hr
       unfold b8u
       obtain ⟨J,hJ⟩:∃ J,Q0 t=J:=⟨_,rfl⟩
       rw [hJ] at hr hg ⊢
       obtain ⟨⟨k,n,tt,ns,is⟩,c⟩:=J
       simp only [LJson.kind] at hr hg ⊢
       rw [m7] at hr
       simp [num,tx,a8,h3,h3']
       refine T0 rfl rfl (.inl rfl) hr ?_
       simp [num,tx]
       by_cases h0:c=0
       · by_cases h6:k=6
         · have hgd:=hg h6
           have q1:=b80 2 4 _ (by omega) hgd
           have q2:=b66 4 _ (by omega) hgd
           rw [m7] at q1 q2
           simp [num,tx,h0,h6,LJson.kind]
           rw [h6] at q1 q2 ⊢
           refine S9 rfl rfl (.inl rfl) q1 ?_
           cases hd:U7 3 (.mk 6 n tt ns is) with
           | true=>
            simp [num,tx,h0,h6,hd,LJson.kind]
            refine S9 rfl rfl (.inl rfl) q2 ?_
            simp [num,tx,h0,h6,hd,Q3,h3,LJson.kind]
           | false=>
            simp [num,tx,h0,h6,hd,LJson.kind]
         · simp [num,tx,h0,h6,LJson.kind]
       · simp [num,tx,h0]
     · have h3':(8000:Int) < (t.length:Int):=by omega
       simp [num,tx,a8,h3,h3']
   · rw [decide_eq_false h2]
     simp [num,tx]
 · rw [decide_eq_false h1]
   simp [num,tx]
def a62:Tx:=[97,103,101]
def a1s:Tx:=[98,111,100,121]
def wId:Tx:=[105,100]
def b2r (x:LJson) (n:Tx):LJson×Bool:=W7 x.names x.items n
def c1l (x:LJson):Bool:=(b2r x a62).2 && ((b2r x a1s).2 && ((b2r x wId).2 && (decide (x.names.length=3) && (decide ((b2r x a62).1.kind=3) && (decide ((b2r x wId).1.kind=3) && decide ((b2r x a1s).1.kind=6))))))
def b6m (x:LJson):LParcel:=⟨(b2r x wId).1.num,(b2r x a62).1.num,jtx (b2r x a1s).1⟩
def b1n (x:LJson):Bool:=pOK (b6m x).id (b6m x).age (b6m x).body
def pOf (x:LJson):LParcel×Bool:=if c1l x then (b6m x,b1n x) else (⟨0,0,[]⟩,false)
theorem a32 {d:Nat} {k n:Int} {t:Tx} {ns:List Tx} {is:List LJson} (h:Q2 d (.mk k n t ns is)):ns=[]∨k=6∧ns.length=is.length∧is.length≤12:=by
 unfold Q2 at h
 rcases h with ⟨_,_,_,h1,h2⟩ | ⟨_,_,_,h1,h2⟩ | ⟨_,_,_,h1,h2⟩ | ⟨_,_,_,h1,h2⟩ | ⟨_,_,hl,⟨_,h1⟩ | ⟨h0,h1,_⟩,_⟩
 · exact .inl h1
 · exact .inl h1
 · exact .inl h1
 · exact .inl h1
 · exact .inl h1
 · exact .inr ⟨h0,h1,hl⟩
theorem a5s {d:Nat} {k n:Int} {t:Tx} {ns:List Tx} {is:List LJson} (h:Q2 (d+1) (.mk k n t ns is)):∀ x∈is,Q2 d x:=by
 unfold Q2 at h
 rcases h with ⟨_,_,_,h1,h2⟩ | ⟨_,_,_,h1,h2⟩ | ⟨_,_,_,h1,h2⟩ | ⟨_,_,_,h1,h2⟩ | ⟨_,_,hl,_,hs⟩
 · subst h2;simp
 · subst h2;simp
 · subst h2;simp
 · subst h2;simp
 · exact hs
theorem b1w {d:Nat} {k n:Int} {t:Tx} {ns:List Tx} {is:List LJson} (w:Tx) (h:Q2 (d+1) (.mk k n t ns is)):W7 ns is w=(a3z,false)∨∃ x,W7 ns is w=(x,true)∧Q2 d x:=by
 rcases b1s ns (fun x=>decide (x=w)) with ⟨k1,k2⟩ | ⟨i,hi,k1,k2⟩
 · left;unfold W7;rw [k1];simp
 · right
   have hx:i < is.length:=by
    rcases a32 h with rfl | ⟨_,h2,_⟩
    · simp at hi
    · omega
   refine ⟨is[i],?_,a5s h _ (List.getElem_mem hx)⟩
   unfold W7;rw [k1,if_neg (by omega)];simp [hx]
theorem b5u (x:LJson) (h:Q2 3 x):n7 Tryz.prog 117 [.val (I9 x)] (.ret (.tup [.val (E8 (pOf x).1),.val (.bool (pOf x).2)]) []) []:=by
 obtain ⟨k,m,t,ns,xs⟩:=x
 have hnm:=a32 h
 have hnl:ns.length≤1048576:=by rcases hnm with rfl | ⟨_,h1,h2⟩;simp;omega
 have hnx:ns=[]∨ns.length=xs.length:=hnm.imp id fun h=>h.2.1
 have hA:=a4h k m t ns xs a62 hnl hnx
 have hB:=a4h k m t ns xs a1s hnl hnx
 have hI:=a4h k m t ns xs wId hnl hnx
 have gB:=b1w a1s h
 have hT:c1l (.mk k m t ns xs)=((W7 ns xs a62).2 && ((W7 ns xs a1s).2 && ((W7 ns xs wId).2 && (decide (ns.length=3) && (decide ((W7 ns xs a62).1.kind=3) && (decide ((W7 ns xs wId).1.kind=3) && decide ((W7 ns xs a1s).1.kind=6))))))):=rfl
 have hO:b6m (.mk k m t ns xs)=⟨(W7 ns xs wId).1.num,(W7 ns xs a62).1.num,jtx (W7 ns xs a1s).1⟩:=rfl
 unfold a7z at hA hB hI
 obtain ⟨Z,hZ⟩:∃ Z,a45 [.c 2 true 3,.t 3] (.tup [.val (E8 (pOf (.mk k m t ns xs)).1),.val (.bool (pOf (.mk k m t ns xs)).2)])=Z:=⟨_,rfl⟩
 unfold pOf b1n at hZ
 rw [hT,hO] at hZ
 refine J0 mixed ok117 rfl (fun _=>rfl) ?_
 unfold pOf b1n
 rw [hT,hO,hZ]
 generalize W7 ns xs a62=RA at *
 generalize W7 ns xs a1s=RB at *
 generalize W7 ns xs wId=RI at *
 obtain ⟨⟨a1,a2,a3,a4,a5⟩,ab⟩:=RA
 obtain ⟨⟨b1,b2,b3,b4,b5⟩,bb⟩:=RB
 obtain ⟨⟨i1,i2,i3,i4,i5⟩,ib⟩:=RI
 simp only [m7] at hA hB hI
 obtain ⟨T,hTT⟩:∃ T,(ab && (bb && (ib && (decide (ns.length=3) && (decide (a1=3) && (decide (i1=3) && decide (b1=6)))))))=T:=⟨_,rfl⟩
 replace hZ:a45 [.c 2 true 3,.t 3] (.tup [.val (E8 (if T=true then ((⟨i2,a2,jtx (.mk b1 b2 b3 b4 b5)⟩:LParcel),pOK i2 a2 (jtx (.mk b1 b2 b3 b4 b5))) else (⟨0,0,[]⟩,false)).1),.val (.bool (if T=true then ((⟨i2,a2,jtx (.mk b1 b2 b3 b4 b5)⟩:LParcel),pOK i2 a2 (jtx (.mk b1 b2 b3 b4 b5))) else (⟨0,0,[]⟩,false)).2)])=Z:=by rw [← hTT];exact hZ
 unfold ir117
 rw [b7,m7]
 simp [d3,x8,M5,a7,c8,num,tx,x6,a6]
 refine T0 rfl rfl (.inl rfl) hA ?_
 simp [num,tx,a6]
 refine T0 rfl rfl (.inl rfl) hB ?_
 simp [num,tx,a6]
 refine T0 rfl rfl (.inl rfl) hI ?_
 cases ab with
 | false=>
  simp [num,tx,a6]
  obtain rfl:T=false:=by rw [← hTT];simp
  rw [← hZ]
  simp [num,tx,a6,E8,O5,R7,Z2,St.fin,St.freeze,PV.frzL,PV.frz,PV.plL,PV.pl,O0,okId,MObj.pl,N0,x6]
 | true=>
  cases bb with
  | false=>
   simp [num,tx,a6]
   obtain rfl:T=false:=by rw [← hTT];simp
   rw [← hZ]
   simp [num,tx,a6,E8,O5,R7,Z2,St.fin,St.freeze,PV.frzL,PV.frz,PV.plL,PV.pl,O0,okId,MObj.pl,N0,x6]
  | true=>
   cases ib with
   | false=>
    simp [num,tx,a6]
    obtain rfl:T=false:=by rw [← hTT];simp
    rw [← hZ]
    simp [num,tx,a6,E8,O5,R7,Z2,St.fin,St.freeze,PV.frzL,PV.frz,PV.plL,PV.pl,O0,okId,MObj.pl,N0,x6]
   | true=>
    by_cases h4:ns.length=3
    · by_cases h5:a1=3
      · by_cases h6:i1=3
        · by_cases h7:b1=6
          · subst h7
            have hgB:Q2 2 (.mk 6 b2 b3 b4 b5):=by
             rcases gB with h | ⟨x,h,hg⟩
             · cases h
             · cases h;exact hg
            have qT:=a54 2 _ (by omega) hgB
            have qO:=c_l10OK i2 a2 (jtx (.mk 6 b2 b3 b4 b5))
            rw [m7] at qT
            simp [num,tx,a6,h4,h5,h6]
            obtain rfl:T=true:=by rw [← hTT];simp [h4,h5,h6]
            constructor
            all_goals
             refine n0 rfl rfl (.inl rfl) qT ?_
             simp [num,tx,a6]
             refine S9 rfl rfl (.inl rfl) qO ?_
             simp [num,tx,a6]
             rw [← hZ]
             simp [num,tx,a6,E8,O5,R7,Z2,St.fin,St.freeze,PV.frzL,PV.frz,PV.plL,PV.pl,O0,okId,MObj.pl,N0,x6]
          · simp [num,tx,a6,h4,h5,h6,h7]
            obtain rfl:T=false:=by rw [← hTT];simp [h4,h5,h6,h7]
            rw [← hZ]
            simp [num,tx,a6,E8,O5,R7,Z2,St.fin,St.freeze,PV.frzL,PV.frz,PV.plL,PV.pl,O0,okId,MObj.pl,N0,x6]
        · simp [num,tx,a6,h4,h5,h6]
          obtain rfl:T=false:=by rw [← hTT];simp [h4,h5,h6]
          rw [← hZ]
          simp [num,tx,a6,E8,O5,R7,Z2,St.fin,St.freeze,PV.frzL,PV.frz,PV.plL,PV.pl,O0,okId,MObj.pl,N0,x6]
      · simp [num,tx,a6,h4,h5]
        obtain rfl:T=false:=by rw [← hTT];simp [h4,h5]
        rw [← hZ]
        simp [num,tx,a6,E8,O5,R7,Z2,St.fin,St.freeze,PV.frzL,PV.frz,PV.plL,PV.pl,O0,okId,MObj.pl,N0,x6]
    · have h4':¬ (ns.length:Int)=3:=by omega
      simp [num,tx,a6,h4']
      obtain rfl:T=false:=by rw [← hTT];simp [h4]
      rw [← hZ]
      simp [num,tx,a6,E8,O5,R7,Z2,St.fin,St.freeze,PV.frzL,PV.frz,PV.plL,PV.pl,O0,okId,MObj.pl,N0,x6]
def rp (J:LJson×Int):List LParcel×Int:=if J.2≠0 then ([],J.2) else if J.1.kind≠5 then ([],9) else if 3 < J.1.items.length then ([],6) else if J.1.items.all (fun x=>(pOf x).2) then (J.1.items.map fun x=>(pOf x).1,0) else ([],3)
def rpP (t:Tx):PV:=.tup [.val (.list 3 ((rp (Q0 t)).1.map E8)),.val (num (rp (Q0 t)).2)]
theorem c0l (t:Tx) (ht:t.length≤1048576):n7 Tryz.prog 57 [.val (tx t)] (.ret (rpP t) []) []:=by
 refine J0 mixed ok57 rfl (fun _=>rfl) ?_
 have hr:=b18 t ht
 unfold b9j at hr
 have hg:(Q0 t).1.kind=5→Q2 4 (Q0 t).1:=fun h=>by
  unfold Q0 at h ⊢
  cases hj:a5e t with
  | ok x k=>exact a6m hj
  | err c=>rw [hj] at h;simp [LJson.kind] at h
 unfold rpP
 obtain ⟨J,hJ⟩:∃ J,Q0 t=J:=⟨_,rfl⟩
 rw [hJ] at hr hg ⊢
 obtain ⟨⟨k,n,tt,ns,is⟩,c⟩:=J
 simp only [LJson.kind,LJson.items] at hr hg
 obtain ⟨R,hR⟩:∃ R,rp (.mk k n tt ns is,c)=R:=⟨_,rfl⟩
 rw [hR]
 obtain ⟨Z,hZ⟩:∃ Z,a45 [.t 2,.t 3] (.tup [.val (.list 3 (R.1.map E8)),.val (num R.2)])=Z:=⟨_,rfl⟩
 rw [hZ]
 rw [m7] at hr
 unfold ir57
 rw [b7]
 simp [d3,x8,M5,a7,c8,num,tx,x6]
 refine T0 rfl rfl (.inl rfl) hr ?_
 simp [num,tx]
 by_cases h0:c=0
 · by_cases h5:k=5
   · by_cases h3:3 < is.length
     · have h3':(3:Int) < (is.length:Int):=by omega
       obtain rfl:R=([],6):=by rw [← hR];simp [rp,h0,h5,h3,LJson.kind,LJson.items]
       simp [num,tx,h0,h5,h3,h3']
       rw [← hZ]
       simp [num,O0,PV.pl]
     · have h3':¬ (3:Int) < (is.length:Int):=by omega
       have hgd:=a5s (hg h5)
       have hRR:R=if is.all (fun x=>(pOf x).2)=true then (is.map fun x=>(pOf x).1,(0:Int)) else ([],3):=by rw [← hR];simp [rp,h0,h5,h3,LJson.kind,LJson.items]
       simp [num,tx,h0,h5,h3,h3']
       refine O6 (X:=Nat) (fun i=>⟨P6 [(4,.ptr 4 0),(6,.own 28),(7,.val (num (i:Int)))],P3 [(4,.box [.val (num 5),.val (num n),.val (tx tt),.val (.list 1 (ns.map tx)),.val (.list 5 (is.map I9))]),(28,.row 94 3 ((is.take i).map fun x=>E8 (pOf x).1))]⟩)
        (fun i=>i≤is.length∧∀ j (h:j < is.length),j < i→(pOf is[j]).2=true) (fun i=>is.length - i) 0 (Le.mk _ _ ?_ ?_) ⟨Nat.zero_le _,fun j _ h=>absurd h (Nat.not_lt_zero _)⟩ ?_
       · simp [num,tx,PV.kill]
       · simp [num,tx,MObj.kill,PV.kill,PV.killL,x6]
       · rintro i ⟨hi,hall⟩
         have wi:IntKind.i64.wrap ((i:Int)+1)=((i+1:Nat):Int):=by rw [wrap_i64 (by omega) (by omega)];omega
         by_cases h1:i < is.length
         · have hC:=b5u is[i] (hgd _ (List.getElem_mem h1))
           obtain ⟨y,hy⟩:∃ y,is[i]=y:=⟨_,rfl⟩
           obtain ⟨⟨q,b⟩,hq⟩:∃ q,pOf is[i]=q:=⟨_,rfl⟩
           have hst:(is.take (i+1)).map (fun x=>E8 (pOf x).1)=(is.take i).map (fun x=>E8 (pOf x).1)++[E8 q]:=by
            rw [List.take_add_one,List.getElem?_eq_getElem h1,List.map_append]
            simp [hq]
           rw [hq,hy] at hC
           obtain ⟨a1,a2,a3,a4,a5⟩:=y
           rw [m7] at hC
           unfold E8 at hC
           simp [num,tx,h1,hy,m7]
           refine T0 rfl rfl (.inl rfl) hC ?_
           cases b with
           | true=>
            simp [num,tx,h1,hy,elems,a6,RV.one,J2]
            refine ⟨by omega,by omega,?_⟩
            refine LoopNext.mk (i+1) ⟨h1,fun j hj hji=>?_⟩ (by omega) (Le.mk _ _ ?_ ?_)
            · by_cases e:j=i
              · subst e;rw [hq]
              · exact hall j hj (by omega)
            · simp [num,wi,tx]
            · rw [hst];simp [num,tx,E8]
           | false=>
            simp [num,tx,h1,hy]
            have hf:is.all (fun x=>(pOf x).2)=false:=by
             rw [Bool.eq_false_iff];intro ha
             have:=List.all_eq_true.1 ha is[i] (List.getElem_mem h1)
             rw [hq] at this;cases this
            rw [← hZ,hRR,hf]
            simp [num,tx,O0,PV.pl]
         · have ht:is.all (fun x=>(pOf x).2)=true:=by
            rw [List.all_eq_true]
            intro x hx
            obtain ⟨j,hj,rfl⟩:=List.mem_iff_getElem.1 hx
            exact hall j hj (by omega)
           have e:i=is.length:=by omega
           subst e
           simp [num,tx]
           rw [← hZ,hRR,ht]
           simp [num,tx,O0,PV.pl,Function.comp_def]
   · obtain rfl:R=([],9):=by rw [← hR];simp [rp,h0,h5,LJson.kind,LJson.items]
     simp [num,tx,h0,h5]
     rw [← hZ]
     simp [num,O0,PV.pl]
 · obtain rfl:R=([],c):=by rw [← hR];simp [rp,h0]
   simp [num,tx,h0]
   rw [← hZ]
   simp [num,O0,PV.pl]
end Go.Proofs
end
section
namespace Go.Proofs
open Go.PW Go.KP
attribute [local simp] RV.cells RV.one PV.cells PV.solid PV.one J2 a6 N0 N1 RV.ofCells elems PV.killL
variable [GH]
def rpR (t:Tx):List LParcel:=(rp (a3t t)).1
def rpC (t:Tx):Int:=(rp (a3t t)).2
theorem b44:n7 Tryz.prog 60 [.val (I9 a3z)] (.ret (.val (tx jnull)) []) []:=by
 refine J0 mixed ok60 rfl (fun _=>rfl) ?_
 unfold ir60 a3z
 rw [b7,m7]
 simp [d3,x8,M5,a7,c8,tx,num,jnull,x6]
theorem b06 (t:Tx):n7 Tryz.prog 12 [.val (tx t)] (.ret (.tup [.own 0,.val (num (rpC t))]) [⟨94,3,(rpR t).map E8⟩]) []:=by
 have hr:=b67 t
 have hg:(a3t t).1.kind=5→Q2 4 (a3t t).1:=fun h=>by
  unfold a3t at h ⊢
  split at h
  · rename_i h0
    rw [if_pos h0]
    unfold Q0 at h ⊢
    cases hj:a5e t with
    | ok x k=>exact a6m hj
    | err c=>rw [hj] at h;simp [LJson.kind] at h
  · simp [LJson.kind] at h
 unfold b6c at hr
 unfold rpR rpC
 obtain ⟨J,hJ⟩:∃ J,a3t t=J:=⟨_,rfl⟩
 rw [hJ] at hr hg ⊢
 obtain ⟨⟨k,n,tt,ns,is⟩,c⟩:=J
 simp only [LJson.kind,LJson.items] at hr hg
 obtain ⟨R,hR⟩:∃ R,rp (.mk k n tt ns is,c)=R:=⟨_,rfl⟩
 rw [hR]
 refine b5n (mk:=fun i=>.tup [.own i,.val (num R.2)]) mixed ok12 rfl (fun _=>rfl) ?_
 obtain ⟨Z,hZ⟩:∃ Z,c3f [.t 2,.t 3] (fun i=>.tup [.own i,.val (num R.2)]) 94 3 (R.1.map E8)=Z:=⟨_,rfl⟩
 rw [hZ]
 rw [m7] at hr
 unfold ir12
 rw [b7]
 simp [d3,x8,M5,a7,c8,num,tx,x6]
 refine T0 rfl rfl (.inl rfl) hr ?_
 simp [num,tx]
 by_cases h0:c=0
 · by_cases h5:k=5
   · by_cases h3:3 < is.length
     · have h3':(3:Int) < (is.length:Int):=by omega
       obtain rfl:R=([],6):=by rw [← hR];simp [rp,h0,h5,h3,LJson.kind,LJson.items]
       simp [num,tx,h0,h5,h3,h3']
       rw [← hZ]
       simp [num]
       exact U2 3 600 (by omega) (.inl (by omega)) (by omega) (by simp) (by simp)
     · have h3':¬ (3:Int) < (is.length:Int):=by omega
       have hgd:=a5s (hg h5)
       have hRR:R=if is.all (fun x=>(pOf x).2)=true then (is.map fun x=>(pOf x).1,(0:Int)) else ([],3):=by rw [← hR];simp [rp,h0,h5,h3,LJson.kind,LJson.items]
       simp [num,tx,h0,h5,h3,h3']
       refine O6 (X:=Nat) (fun i=>⟨P6 [(6,.own 34),(36,.val (.list 5 (is.map I9))),(37,.val (num is.length)),(38,.val (num (i:Int)))],P3 [(34,.row 94 3 ((is.take i).map fun x=>E8 (pOf x).1))]⟩)
        (fun i=>i≤is.length∧∀ j (h:j < is.length),j < i→(pOf is[j]).2=true) (fun i=>is.length - i) 0 (Le.mk _ _ ?_ ?_) ⟨Nat.zero_le _,fun j _ h=>absurd h (Nat.not_lt_zero _)⟩ ?_
       · simp [num,tx,PV.kill]
       · simp [num,tx,MObj.kill,PV.kill,PV.killL,x6]
       · rintro i ⟨hi,hall⟩
         have wi:IntKind.i64.wrap ((i:Int)+1)=((i+1:Nat):Int):=by rw [wrap_i64 (by omega) (by omega)];omega
         by_cases h1:i < is.length
         · obtain ⟨y,hy⟩:∃ y,is[i]=y:=⟨_,rfl⟩
           have hgy:Q2 3 y:=by rw [← hy];exact hgd _ (List.getElem_mem h1)
           have hf:(pOf y).2=false→is.all (fun x=>(pOf x).2)=false:=fun hp=>by
            rw [Bool.eq_false_iff];intro ha
            have:=List.all_eq_true.1 ha is[i] (List.getElem_mem h1)
            rw [hy,hp] at this;cases this
           have hst:(is.take (i+1)).map (fun x=>E8 (pOf x).1)=(is.take i).map (fun x=>E8 (pOf x).1)++[E8 (pOf y).1]:=by
            rw [List.take_add_one,List.getElem?_eq_getElem h1,List.map_append]
            simp [hy]
           have hyy:(pOf is[i]).2=(pOf y).2:=by rw [hy]
           obtain ⟨y1,y2,y3,y4,y5⟩:=y
           have hnm:=a32 hgy
           have hnl:y4.length < 1099511627776:=by rcases hnm with rfl | ⟨_,h1,h2⟩;simp;omega
           have hnx:∀ (w:Tx) (i:Nat),a3o y4 (fun x=>decide (x=w))=i→i < y5.length:=fun w i hi=>by
            rcases b1s y4 (fun x=>decide (x=w)) with ⟨k1,k2⟩ | ⟨q,hq,k1,k2⟩
            · omega
            · rcases hnm with rfl | ⟨_,h1,h2⟩
              · simp at hq
              · omega
           have hA:=a95 y1 y2 y3 y4 y5 a62 hnl (hnx _)
           have hB:=a95 y1 y2 y3 y4 y5 a1s hnl (hnx _)
           have hI:=a95 y1 y2 y3 y4 y5 wId hnl (hnx _)
           have gB:=b1w a1s hgy
           have hT:c1l (.mk y1 y2 y3 y4 y5)=((W7 y4 y5 a62).2 && ((W7 y4 y5 a1s).2 && ((W7 y4 y5 wId).2 && (decide (y4.length=3) && (decide ((W7 y4 y5 a62).1.kind=3) && (decide ((W7 y4 y5 wId).1.kind=3) && decide ((W7 y4 y5 a1s).1.kind=6))))))):=rfl
           have hO:b6m (.mk y1 y2 y3 y4 y5)=⟨(W7 y4 y5 wId).1.num,(W7 y4 y5 a62).1.num,jtx (W7 y4 y5 a1s).1⟩:=rfl
           have h63:y1=6→(y5.length=3↔y4.length=3):=fun h=>by
            unfold Q2 at hgy
            rcases hgy with ⟨e,_⟩ | ⟨e,_⟩ | ⟨e,_⟩ | ⟨e,_⟩ | ⟨_,_,_,⟨e,_⟩ | ⟨_,e,_⟩,_⟩<;>omega
           have h43:y4.length=3→y1=6:=fun h=>by
            rcases hnm with rfl | ⟨e,_⟩
            · simp at h
            · exact e
           have hpf:(pOf (.mk y1 y2 y3 y4 y5))=if c1l (.mk y1 y2 y3 y4 y5) then (b6m (.mk y1 y2 y3 y4 y5),b1n (.mk y1 y2 y3 y4 y5)) else (⟨0,0,[]⟩,false):=rfl
           unfold b1n at hpf
           rw [hT,hO] at hpf
           unfold a7z at hA hB hI
           generalize pOf (.mk y1 y2 y3 y4 y5)=PQ at *
           generalize W7 y4 y5 a62=RA at *
           generalize W7 y4 y5 a1s=RB at *
           generalize W7 y4 y5 wId=RI at *
           obtain ⟨⟨a1,a2,a3,a4,a5⟩,ab⟩:=RA
           obtain ⟨⟨b1,b2,b3,b4,b5⟩,bb⟩:=RB
           obtain ⟨⟨i1,i2,i3,i4,i5⟩,ib⟩:=RI
           obtain ⟨bt,hbt,hbt6⟩:∃ bt,n7 Tryz.prog 60 [.val (I9 (.mk b1 b2 b3 b4 b5))] (.ret (.val (tx bt)) []) []∧(b1=6→bt=jtx (.mk b1 b2 b3 b4 b5)):=by
            rcases gB with h | ⟨x,h,hgx⟩
            · cases h;exact ⟨jnull,b44,fun h=>by cases h⟩
            · cases h;exact ⟨_,b66 2 _ (by omega) hgx,fun _=>rfl⟩
           simp only [m7] at hA hB hI hbt
           obtain ⟨T,hTT⟩:∃ T,(ab && (bb && (ib && (decide (y4.length=3) && (decide (a1=3) && (decide (i1=3) && decide (b1=6)))))))=T:=⟨_,rfl⟩
           replace hpf:PQ=if T=true then ((⟨i2,a2,jtx (.mk b1 b2 b3 b4 b5)⟩:LParcel),pOK i2 a2 (jtx (.mk b1 b2 b3 b4 b5))) else (⟨0,0,[]⟩,false):=by rw [← hTT];exact hpf
           have hf0:=hf
           replace hf:T=false→is.all (fun x=>(pOf x).2)=false:=fun h=>hf (by rw [hpf,h];rfl)
           simp [num,tx,h1,hy,m7]
           refine T0 rfl rfl (.inl rfl) hA ?_
           simp [num,tx,a6]
           refine T0 rfl rfl (.inl rfl) hB ?_
           simp [num,tx,a6]
           refine T0 rfl rfl (.inl rfl) hI ?_
           simp [num,tx,a6]
           constructor
           all_goals
            refine n0 rfl rfl (.inl rfl) hbt ?_
            by_cases c1:y1=6
            · by_cases c2:y5.length=3
              · cases ab with
                | false=>
                 simp [num,tx,a6,c1,c2]
                 rw [← hZ,hRR,hf (by rw [← hTT];simp [c1,c2])]
                 simp [num]
                 exact U2 3 600 (by omega) (.inl (by omega)) (by omega) (by simp) (by simp)
                | true=>
                 cases bb with
                 | false=>
                  simp [num,tx,a6,c1,c2]
                  rw [← hZ,hRR,hf (by rw [← hTT];simp [c1,c2])]
                  simp [num]
                  exact U2 3 600 (by omega) (.inl (by omega)) (by omega) (by simp) (by simp)
                 | true=>
                  cases ib with
                  | false=>
                   simp [num,tx,a6,c1,c2]
                   rw [← hZ,hRR,hf (by rw [← hTT];simp [c1,c2])]
                   simp [num]
                   exact U2 3 600 (by omega) (.inl (by omega)) (by omega) (by simp) (by simp)
                  | true=>
                   by_cases c5:a1=3
                   · by_cases c6:i1=3
                     · by_cases c7:b1=6
                       · have hbt:bt=jtx (.mk b1 b2 b3 b4 b5):=hbt6 c7
                         have qO:=b68 i2 a2 bt
                         simp [num,tx,a6,c1,c2,c5,c6,c7]
                         refine n0 rfl rfl (.inl rfl) qO ?_
                         have hT1:T=true:=by rw [← hTT];simp [(h63 c1).1 c2,c5,c6,c7]
                         rw [hT1,if_pos rfl] at hpf
                         subst hpf
                         rw [← hbt] at *
                         cases hp:pOK i2 a2 bt with
                         | true=>
                          simp [num,tx,a6,elems,RV.one,J2]
                          refine ⟨by omega,by omega,?_⟩
                          refine LoopNext.mk (i+1) ⟨h1,fun j hj hji=>?_⟩ (by omega) (Le.mk _ _ ?_ ?_)
                          · by_cases e:j=i
                            · subst e;rw [hyy];exact hp
                            · exact hall j hj (by omega)
                          · simp [num,wi,tx]
                          · rw [hst];simp [num,tx,E8]
                         | false=>
                          simp [num,tx,a6]
                          rw [← hZ,hRR,hf0 hp]
                          simp [num]
                          exact U2 3 600 (by omega) (.inl (by omega)) (by omega) (by simp) (by simp)
                       · skip
                         simp [num,tx,a6,c1,c2,c5,c6,c7]
                         rw [← hZ,hRR,hf (by rw [← hTT];simp [c1,c2,c5,c6,c7])]
                         simp [num]
                         exact U2 3 600 (by omega) (.inl (by omega)) (by omega) (by simp) (by simp)
                     · skip
                       simp [num,tx,a6,c1,c2,c5,c6]
                       rw [← hZ,hRR,hf (by rw [← hTT];simp [c1,c2,c5,c6])]
                       simp [num]
                       exact U2 3 600 (by omega) (.inl (by omega)) (by omega) (by simp) (by simp)
                   · skip
                     simp [num,tx,a6,c1,c2,c5]
                     rw [← hZ,hRR,hf (by rw [← hTT];simp [c1,c2,c5])]
                     simp [num]
                     exact U2 3 600 (by omega) (.inl (by omega)) (by omega) (by simp) (by simp)
              · skip
                have c2':¬ (y5.length:Int)=3:=by omega
                simp [num,tx,a6,c1,c2,c2']
                rw [← hZ,hRR,hf (by rw [← hTT];simp [show ¬ y4.length=3 from fun h=>c2 ((h63 c1).2 h)])]
                simp [num]
                exact U2 3 600 (by omega) (.inl (by omega)) (by omega) (by simp) (by simp)
            · skip
              simp [num,tx,a6,c1]
              rw [← hZ,hRR,hf (by rw [← hTT];simp [show ¬ y4.length=3 from fun h=>c1 (h43 h)])]
              simp [num]
              exact U2 3 600 (by omega) (.inl (by omega)) (by omega) (by simp) (by simp)
         · have ht:is.all (fun x=>(pOf x).2)=true:=by
            rw [List.all_eq_true]
            intro x hx
            obtain ⟨j,hj,rfl⟩:=List.mem_iff_getElem.1 hx
            exact hall j hj (by omega)
           have e:i=is.length:=by omega
           subst e
           simp [num,tx]
           rw [← hZ,hRR,ht]
           simp [num]
           exact b4e 34 (by simp) (by simp) (by simp [Function.comp_def])
   · obtain rfl:R=([],9):=by rw [← hR];simp [rp,h0,h5,LJson.kind,LJson.items]
     simp [num,tx,h0,h5]
     rw [← hZ]
     simp [num]
     exact U2 3 600 (by omega) (.inl (by omega)) (by omega) (by simp) (by simp)
 · obtain rfl:R=([],c):=by rw [← hR];simp [rp,h0]
   simp [num,tx,h0]
   rw [← hZ]
   simp [num]
   exact U2 3 600 (by omega) (.inl (by omega)) (by omega) (by simp) (by simp)
end Go.Proofs
end
