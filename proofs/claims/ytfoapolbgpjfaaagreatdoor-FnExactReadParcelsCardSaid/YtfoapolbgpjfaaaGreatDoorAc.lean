/- Ac: merged out of KPa, KPb, KPc, KPd, KPe, KPf, KPg, KPh, KPi, KPj, KPk, KPl, KPm, KPn, KPo, KQa, KRa, KLa, KRb, KRc, KPp, KRd, KPx, KPy, KPz, KPaa, KPab, KPac. -/
import Derived.Test.YtfoapolbgpjfaaaGreatDoorPWv
set_option linter.unusedSectionVars false
set_option linter.unusedSimpArgs false
set_option linter.unusedVariables false
section
namespace Go.KP
abbrev Tx:=List UInt8
def P7 (c:UInt8):Bool:=decide (48≤c.toNat∧c.toNat≤57)
def X2 (t:Tx) (c:UInt8):Nat:=t.findIdx (· == c)
def X9 (n:Nat):Tx:=if h:n < 10 then [UInt8.ofNat (48+n)] else X9 (n / 10)++[UInt8.ofNat (48+n % 10)]
termination_by n
decreasing_by omega
theorem b2y (t:Tx) (c:UInt8) (i:Nat) (hi:i≤t.length) (h:∀ k,k < i→t.getD k 0≠c) (h':i=t.length∨t.getD i 0=c):X2 t c=i:=by
 unfold X2
 by_cases hl:i < t.length
 · rw [List.findIdx_eq hl]
   refine ⟨?_,fun j hj=>?_⟩
   · rcases h' with h' | h'
     · omega
     · simpa [List.getD_eq_getElem?_getD,List.getElem?_eq_getElem hl] using h'
   · have:=h j hj
     have hjl:j < t.length:=by omega
     simpa [List.getD_eq_getElem?_getD,List.getElem?_eq_getElem hjl] using this
 · have e:i=t.length:=by omega
   subst e
   rw [List.findIdx_eq_length]
   intro x hx
   obtain ⟨j,hj,rfl⟩:=List.getElem_of_mem hx
   have:=h j hj
   simpa [List.getD_eq_getElem?_getD,List.getElem?_eq_getElem hj] using this
theorem b87 (t:Tx) (c:UInt8):X2 t c≤t.length:=List.findIdx_le_length
theorem b86 {t:Tx} {c:UInt8}:X2 t c < t.length↔c∈t:=by
 unfold X2
 rw [List.findIdx_lt_length]
 constructor
 · rintro ⟨x,hx,h⟩;have:x=c:=by simpa using h
   exact this ▸ hx
 · intro h;exact ⟨c,h,by simp⟩
theorem a1u {α:Type} (t:List α) (i:Nat) (d:α) (h:i < t.length):t.getD i d=t[i]:=by simp [List.getD_eq_getElem?_getD,List.getElem?_eq_getElem h]
theorem b6t {α:Type} (t:List α) (i:Nat) (d:α) (h:i < t.length):t.take (i+1)=t.take i++[t.getD i d]:=by
 rw [List.take_add_one,List.getElem?_eq_getElem h,a1u t i d h];rfl
theorem b0u {α:Type} (t:List α) (i:Nat) (d:α) (h:i < t.length):t.drop i=t.getD i d :: t.drop (i+1):=by
 rw [List.drop_eq_getElem_cons h,a1u t i d h]
theorem W8 {n:Nat} (h:n < 10):X9 n=[UInt8.ofNat (48+n)]:=by rw [X9];simp [h]
theorem a03 {n:Nat} (h:¬ n < 10):X9 n=X9 (n / 10)++[UInt8.ofNat (48+n % 10)]:=by rw [X9];simp [h]
theorem b2z (n:Nat):(X9 n).length≤n+1:=by
 induction n using Nat.strongRecOn with
 | ind n ih=>
  by_cases h:n < 10
  · rw [W8 h];simp
  · rw [a03 h]
    have:=ih (n / 10) (by omega)
    simp;omega
theorem a8j:∀ (k n:Nat),n < 10 ^ (k+1)→(X9 n).length≤k+1
 | 0,n,h=>by rw [W8 (by simpa using h)];simp
 | k+1,n,h=>by
  by_cases hn:n < 10
  · rw [W8 hn];simp
  · rw [a03 hn]
    have:=a8j k (n / 10) (by rw [Nat.div_lt_iff_lt_mul (by omega)];rw [Nat.pow_succ] at h;exact h)
    simp;omega
def a1d (n:Int):Tx:=if n < 0 then 45 :: X9 (-n).toNat else X9 n.toNat
def S1 (t:Tx):Nat:=t.foldl (fun n c=>n*10+(c.toNat - 48)) 0
def a0c (neg:Bool) (t:Tx):Bool:=decide (t.length=0∨18 < t.length) || (decide ((t.getD 0 0).toNat=48) && (decide (1 < t.length) || neg))
def X0 (neg:Bool) (t:Tx):Option Int:=if a0c neg t then none else if t.all P7 then some (if neg then - (S1 t:Int) else (S1 t:Int)) else none
def R4 (t:Tx):Option Int:=match t with
 | []=>none
 | c :: r=>if c=45 then X0 true r else X0 false (c :: r)
theorem a3z (t:Tx) (c:UInt8):S1 (t++[c])=S1 t*10+(c.toNat - 48):=by simp [S1]
theorem b1j (t:Tx) (h:t.all P7=true):S1 t < 10 ^ t.length:=by
 have key:∀ (k:Nat) (t:Tx),t.length=k→t.all P7=true→S1 t < 10 ^ t.length:=by
  intro k
  induction k with
  | zero=>intro t ht _;have:t=[]:=List.eq_nil_of_length_eq_zero ht;subst this;decide
  | succ k ih=>
   intro t ht ha
   obtain ⟨r,c,rfl⟩:∃ r c,t=r++[c]:=⟨t.dropLast,t.getLast (by intro e;subst e;simp at ht),(List.dropLast_concat_getLast _).symm⟩
   simp only [List.all_append,Bool.and_eq_true] at ha
   have h1:=ih r (by simpa using ht) ha.1
   have h2:P7 c=true:=by simpa using ha.2
   simp [P7] at h2
   rw [a3z]
   simp only [List.length_append,List.length_singleton,Nat.pow_succ]
   omega
 exact key t.length t rfl h
theorem a95 {α:Type} (t:List α) (p:α→Bool) (i:Nat) (h:i < t.length):(t.take (i+1)).all p=((t.take i).all p && p t[i]):=by
 rw [List.take_add_one,List.getElem?_eq_getElem h,List.all_append];simp
structure LUrl where
 scheme:Tx
 user:Tx
 host:Tx
 port:Int
 path:Tx
 query:Tx
 frag:Tx
 hasQ:Bool
 hasF:Bool
def LUrl.Small (u:LUrl):Prop:=u.scheme.length < 1099511627776∧u.user.length < 1099511627776∧u.host.length < 1099511627776∧u.path.length < 1099511627776∧u.query.length < 1099511627776∧u.frag.length < 1099511627776∧u.port≤9223372036854775807
end Go.KP
end
section
namespace Go.KP
def LUrl.zero:LUrl:=⟨[],[],[],0,[],[],[],false,false⟩
structure LTarget where
 url:Tx
 prio:Int
 weight:Int
 deriving DecidableEq
structure LPeer where
 target:LTarget
 fails:Int
 retry:Int
 gone:Bool
 deriving DecidableEq
end Go.KP
end
section
namespace Go.KP
end Go.KP
end
section
namespace Go.KP
theorem a8k:∀ (n:Nat),(X9 n).all P7=true:=by
 intro n
 induction n using Nat.strongRecOn with
 | ind n ih=>
  by_cases h:n < 10
  · rw [W8 h]
    simp [P7]
    omega
  · rw [a03 h,List.all_append,ih (n / 10) (by omega)]
    simp [P7]
    omega
end Go.KP
end
section
namespace Go.KP
theorem b01 (k:Nat) (h:k < 10):(UInt8.ofNat (48+k)).toNat=48+k:=by
 rw [UInt8.toNat_ofNat'];omega
theorem b0d (n:Nat):S1 (X9 n)=n:=by
 induction n using Nat.strongRecOn with
 | ind n ih=>
  by_cases h:n < 10
  · rw [W8 h]
    have:=b01 n h
    simp only [S1,List.foldl_cons,List.foldl_nil,this];omega
  · rw [a03 h,a3z,ih (n / 10) (by omega),b01 _ (by omega)]
    omega
theorem b1o (n:Nat):X9 n≠[]:=by
 by_cases h:n < 10
 · rw [W8 h];simp
 · rw [a03 h];simp
theorem b67 (n:Nat) (h0:n≠0):((X9 n).getD 0 0).toNat≠48:=by
 induction n using Nat.strongRecOn with
 | ind n ih=>
  by_cases h:n < 10
  · rw [W8 h]
    have:=b01 n h
    simp only [List.getD_cons_zero,this];omega
  · rw [a03 h]
    have h1:=ih (n / 10) (by omega) (by omega)
    cases hl:X9 (n / 10) with
    | nil=>exact absurd hl (b1o _)
    | cons c r=>rw [hl] at h1;simpa using h1
theorem a6x {c:UInt8} (h:P7 c=true):UInt8.ofNat (48+(c.toNat - 48))=c:=by
 simp only [P7,decide_eq_true_eq] at h
 apply UInt8.toNat_inj.1
 rw [b01 _ (by omega)];omega
theorem b66:∀ (k:Nat) (t:Tx),t.length=k→t≠[]→t.all P7=true→((t.getD 0 0).toNat=48→t.length=1)→X9 (S1 t)=t:=by
 intro k
 induction k with
 | zero=>intro t ht h;exact absurd (List.eq_nil_of_length_eq_zero ht) h
 | succ k ih=>
  intro t ht hne ha hz
  obtain ⟨r,c,rfl⟩:∃ r c,t=r++[c]:=⟨t.dropLast,t.getLast hne,(List.dropLast_concat_getLast _).symm⟩
  simp only [List.all_append,Bool.and_eq_true] at ha
  have hc:P7 c=true:=by simpa using ha.2
  have hc':=hc
  simp only [P7,decide_eq_true_eq] at hc'
  rw [a3z]
  cases r with
  | nil=>
   rw [show S1 []*10+(c.toNat - 48)=c.toNat - 48 by simp [S1]]
   rw [W8 (by omega),a6x hc];rfl
  | cons d r=>
   have hd:d.toNat≠48:=fun e=>by
    have:=hz (by simpa using e)
    simp at this
   have hi:=ih (d :: r) (by simpa using ht) (by simp) ha.1 (fun e=>absurd (by simpa using e) hd)
   have hpos:S1 (d :: r)≠0:=fun e=>by
    rw [e,W8 (by omega)] at hi
    have h2:UInt8.ofNat 48=d:=by simpa using (List.cons.inj hi).1
    exact hd (by rw [← h2];rfl)
   rw [a03 (by omega)]
   have e1:(S1 (d :: r)*10+(c.toNat - 48)) / 10=S1 (d :: r):=by omega
   have e2:(S1 (d :: r)*10+(c.toNat - 48)) % 10=c.toNat - 48:=by omega
   rw [e1,e2,hi,a6x hc]
def T7 (t:Tx):Nat:=match t with
 | []=>0
 | c :: r=>if c=45 then r.length else (c :: r).length
theorem a6u (neg:Bool) (n:Nat) (h18:(X9 n).length≤18) (hn:neg=true→n≠0):a0c neg (X9 n)=false:=by
 unfold a0c
 have h1:(X9 n).length≠0:=fun e=>b1o n (List.eq_nil_of_length_eq_zero e)
 by_cases h0:n=0
 · subst h0
   cases neg with
   | true=>exact absurd rfl (hn rfl)
   | false=>rw [W8 (by omega)];simp
 · have h2:=b67 n h0
   have e1:decide ((X9 n).length=0∨18 < (X9 n).length)=false:=by simp only [decide_eq_false_iff_not];omega
   have e2:decide (((X9 n).getD 0 0).toNat=48)=false:=by simp only [decide_eq_false_iff_not];exact h2
   rw [e1,e2];rfl
theorem b1n (n:Int) (h:T7 (a1d n)≤18):R4 (a1d n)=some n:=by
 unfold a1d at h ⊢
 by_cases h0:n < 0
 · rw [if_pos h0] at h ⊢
   have h':(X9 (-n).toNat).length≤18:=by simpa [T7] using h
   simp only [R4,if_true,X0]
   rw [a6u true _ h' (fun _=>by omega),if_neg (by simp),if_pos (a8k _),b0d]
   simp;omega
 · rw [if_neg h0] at h ⊢
   cases hl:X9 n.toNat with
   | nil=>exact absurd hl (b1o _)
   | cons c r=>
    have hd:=a8k n.toNat
    rw [hl] at hd h
    have hc:c≠45:=fun e=>by subst e;simp [P7] at hd
    have h':(X9 n.toNat).length≤18:=by rw [hl];simpa [T7,hc] using h
    simp only [R4,hc,if_false]
    rw [← hl]
    simp only [X0]
    rw [a6u false _ h' (fun e=>by cases e),if_neg (by simp),if_pos (a8k _),b0d]
    simp;omega
theorem b1m {t:Tx} {n:Int} (h:R4 t=some n):a1d n=t∧T7 t≤18 ∧
 ∃ u:Tx,u≠[]∧u.all P7=true∧u.length≤18∧((t=45 :: u∧n=-(S1 u:Int))∨(t=u∧n=S1 u)):=by
 have key:∀ (neg:Bool) (u:Tx),X0 neg u=some n→u≠[]∧u.length≤18∧u.all P7=true∧X9 (S1 u)=u∧(neg=true→S1 u≠0)∧n=(if neg then - (S1 u:Int) else (S1 u:Int)):=by
  intro neg u hu
  unfold X0 at hu
  split at hu
  · cases hu
  · rename_i hb
    split at hu
    · rename_i ha
      have hn:=(Option.some.inj hu).symm
      have hb':a0c neg u=false:=by simpa using hb
      unfold a0c at hb'
      rw [Bool.or_eq_false_iff] at hb'
      obtain ⟨q1,q2⟩:=hb'
      rw [decide_eq_false_iff_not] at q1
      have hne:u≠[]:=fun e=>q1 (by rw [e];simp)
      have hz:(u.getD 0 0).toNat=48→u.length=1∧neg=false:=fun e=>by
       rw [Bool.and_eq_false_iff] at q2
       rcases q2 with q2 | q2
       · simp only [decide_eq_false_iff_not] at q2;exact absurd e q2
       · rw [Bool.or_eq_false_iff,decide_eq_false_iff_not] at q2
         have:u.length≠0:=fun e=>hne (List.eq_nil_of_length_eq_zero e)
         exact ⟨by omega,q2.2⟩
      have hl:=b66 u.length u rfl hne ha (fun e=>(hz e).1)
      refine ⟨hne,by omega,ha,hl,fun hneg h0=>?_,hn⟩
      rw [h0,W8 (by omega)] at hl
      have:=(hz (by rw [← hl];rfl)).2
      rw [hneg] at this;cases this
    · cases hu
 unfold R4 at h
 split at h
 · cases h
 · rename_i c r
   split at h
   · rename_i hc
     subst hc
     obtain ⟨h1,h2,h3,h4,h5,h6⟩:=key true r h
     simp only [if_true] at h6
     have h5':=h5 rfl
     refine ⟨?_,by simpa [T7] using h2,r,h1,h3,h2,.inl ⟨rfl,h6⟩⟩
     unfold a1d
     rw [if_pos (by omega),h6]
     rw [show (- -(S1 r:Int)).toNat=S1 r by omega,h4]
   · rename_i hc
     obtain ⟨h1,h2,h3,h4,h5,h6⟩:=key false (c :: r) h
     have h6:n=(S1 (c :: r):Int):=h6
     refine ⟨?_,by simpa [T7,hc] using h2,c :: r,h1,h3,h2,.inr ⟨rfl,h6⟩⟩
     unfold a1d
     rw [if_neg (by omega),h6]
     rw [show ((S1 (c :: r):Int)).toNat=S1 (c :: r) by omega,h4]
end Go.KP
end
section
namespace Go.KP
def LTarget.Small (x:LTarget):Prop:=x.url.length < 1099511627776
end Go.KP
end
section
namespace Go.KP
end Go.KP
end
section
namespace Go.KP
def b83 (now:Int) (x:LPeer):Bool:=!x.gone && decide (x.retry≤now)
def chMatch (now b:Int) (x:LPeer):Bool:=b83 now x && decide (x.target.prio=b)
def chSum (now b:Int):List LPeer→Int
 | []=>0
 | x :: l=>(if chMatch now b x then x.target.weight else 0)+chSum now b l
structure ChInv (now:Int) (l:List LPeer) (a:Int×Int):Prop where
 lo:0≤a.2
 hi:a.2≤9*l.length
 sum:a.2=if a.2=0 then 0 else chSum now a.1 l
 low:∀ x∈l,b83 now x=true→a.1≤x.target.prio∧0 < a.2
 nine:a.2≠0→1≤a.1∧a.1≤9
end Go.KP
end
section
namespace Go.KP
def a9v (k:Nat) (out:Tx):Tx:=if h:k=0 then out else a9v (k / 10) (UInt8.ofNat (48+k % 10) :: out)
termination_by k
decreasing_by omega
theorem b65 (out:Tx):a9v 0 out=out:=by rw [a9v];simp
theorem b85 {k:Nat} (h:k≠0) (out:Tx):a9v k out=a9v (k / 10) (UInt8.ofNat (48+k % 10) :: out):=by
 conv=>lhs;rw [a9v]
 simp [h]
def lmk (k:Nat):Tx:=if k=0 then [109,48] else 109 :: a9v k []
end Go.KP
end
section
namespace Go.KP
end Go.KP
end
section
namespace Go.KP
def bdS {α:Type} (B:Nat) (p:α→Prop) (l:List α):Prop:=l.length≤B∧∀ x∈l,p x
structure LGroup where
 name:Tx
 age:Int
 targets:List LTarget
 deriving DecidableEq
structure LRule where
 name:Tx
 words:List Tx
 deriving DecidableEq
structure LPolicy where
 reportTo:Tx
 uris:List Tx
 rules:List LRule
 deriving DecidableEq
structure LViolation where
 document:Tx
 referrer:Tx
 blocked:Tx
 source:Tx
 directive:Tx
 sample:Tx
 line:Int
 column:Int
 redirected:Bool
 deriving DecidableEq
structure LReport where
 id:Int
 born:Int
 tries:Int
 body:Tx
 deriving DecidableEq
structure LQueue where
 items:List LReport
 recent:List Tx
 deriving DecidableEq
structure LChannel where
 group:LGroup
 peers:List LPeer
 queue:LQueue
 deriving DecidableEq
structure LEntry where
 kind:Int
 id:Int
 at_:Int
 deriving DecidableEq
structure LWire where
 at_:Int
 status:Int
 group:Tx
 url:Tx
 ids:List Int
 body:Tx
 lost:Bool
 deriving DecidableEq
structure LPipe where
 channels:List LChannel
 policy:LPolicy
 now:Int
 next:Int
 log:List LEntry
 wires:List LWire
 deriving DecidableEq
structure LEvent where
 kind:Int
 draw:Int
 status:Int
 ticks:Int
 text:Tx
 name:Tx
 violation:LViolation
 lost:Bool
 deriving DecidableEq
structure LParcel where
 id:Int
 age:Int
 body:Tx
 deriving DecidableEq
def a5w (B:Nat) (x:LParcel):Prop:=x.body.length≤B
structure LBox where
 ids:List Int
 times:List Int
 bodies:List Tx
 deriving DecidableEq
end Go.KP
end
section
namespace Go.KP
def a23 {α:Type} (l:List α) (p:α→Bool):Int:=match l.findIdx? p with
 | some i=>i
 | none=>-1
theorem b57 {α:Type} (l:List α) (p:α→Bool):decide (0≤a23 l p)=l.any p:=by
 unfold a23
 cases h:l.findIdx? p with
 | none=>
  rw [List.findIdx?_eq_none_iff] at h
  rw [Bool.eq_iff_iff]
  simp only [decide_eq_true_eq,List.any_eq_true]
  constructor
  · intro h;omega
  · rintro ⟨x,hx,hp⟩;rw [h x hx] at hp;cases hp
 | some i=>
  rw [List.findIdx?_eq_some_iff_getElem] at h
  obtain ⟨hi,hp,_⟩:=h
  show decide (0≤(i:Int))=_
  rw [decide_eq_true (by omega)]
  symm
  rw [List.any_eq_true]
  exact ⟨l[i],List.getElem_mem hi,hp⟩
theorem a8i {α:Type} {l:List α} {p:α→Bool} {i:Nat} (hi:i < l.length) (hp:p l[i]=true) (h:∀ k (hk:k < i),p (l[k]'(by omega))=false):a23 l p=i:=by
 unfold a23
 have:l.findIdx? p=some i:=by
  rw [List.findIdx?_eq_some_iff_getElem]
  exact ⟨hi,hp,fun j hj=>by simp [h j hj]⟩
 rw [this]
theorem a6c {α:Type} {l:List α} {p:α→Bool} (h:∀ k (hk:k < l.length),p l[k]=false):a23 l p=-1:=by
 unfold a23
 have:l.findIdx? p=none:=by
  rw [List.findIdx?_eq_none_iff]
  intro x hx
  obtain ⟨k,hk,rfl⟩:=List.getElem_of_mem hx
  exact h k hk
 rw [this]
theorem b0g {α:Type} (l:List α) (p:α→Bool):(a23 l p=-1∧l.find? p=none)∨∃ i,∃ h:i < l.length,a23 l p=i∧l.find? p=some l[i]:=by
 unfold a23
 cases h:l.findIdx? p with
 | none=>
  rw [List.findIdx?_eq_none_iff] at h
  exact .inl ⟨rfl,List.find?_eq_none.2 fun x hx=>by simp [h x hx]⟩
 | some i=>
  rw [List.findIdx?_eq_some_iff_getElem] at h
  obtain ⟨hi,hp,hlt⟩:=h
  exact .inr ⟨i,hi,rfl,List.find?_eq_some_iff_getElem.2 ⟨hp,i,hi,rfl,fun j hj=>by simpa using hlt j hj⟩⟩
end Go.KP
end
section
namespace Go.KP
def mkL {α:Type} (f:Nat→α) (w n k:Nat):List α:=(List.range n).map fun j=>f (k+w*j)
theorem a02 {α:Type} (f:Nat→α) (w n k:Nat):(mkL f w n k).length=n:=by simp [mkL]
theorem mkL_at {α:Type} {f:Nat→α} {w n k j:Nat} (h:j < n):(mkL f w n k)[j]'(by rw [a02];exact h)=f (k+w*j):=by simp [mkL]
theorem b80 {α:Type} (f:Nat→α) (w i k:Nat):mkL f w (i+1) k=mkL f w i k++[f (k+w*i)]:=by simp [mkL,List.range_succ]
def mkU {α:Type} (f:Nat→α) (w:Nat) (l:List α) (k i:Nat):List α:=mkL f w i k++l.drop i
theorem b8z {α:Type} (f:Nat→α) (w:Nat) (l:List α) (k:Nat):mkU f w l k 0=l:=by simp [mkU,mkL]
theorem mkU_all {α:Type} (f:Nat→α) (w:Nat) (l:List α) (k:Nat):mkU f w l k l.length=mkL f w l.length k:=by simp [mkU]
theorem mkU_len {α:Type} (f:Nat→α) (w:Nat) (l:List α) (k i:Nat) (h:i≤l.length):(mkU f w l k i).length=l.length:=by simp [mkU,a02];omega
theorem mkU_set {α:Type} (f:Nat→α) (w:Nat) (l:List α) (k i:Nat) (h:i < l.length):(mkU f w l k i).set i (f (k+w*i))=mkU f w l k (i+1):=by
 unfold mkU
 rw [List.set_append_right _ _ (by rw [a02];exact Nat.le_refl _),a02,Nat.sub_self,List.drop_eq_getElem_cons h,List.set_cons_zero,b80,List.append_assoc]
 rfl
end Go.KP
end
section
namespace Go.KP
end Go.KP
end
section
namespace Go.KP
def X1 (sep:Tx):List Tx→Tx
 | []=>[]
 | x :: xs=>x++(xs.map (sep++·)).flatten
theorem b4o (sep:Tx) (xs:List Tx) (x:Tx):X1 sep (xs++[x])=X1 sep xs++((if xs=[] then [] else sep)++x):=by
 cases xs with
 | nil=>simp [X1]
 | cons y ys=>simp [X1]
theorem b4n (sep:Tx) (xs:List Tx) (i:Nat) (h:i < xs.length):X1 sep (xs.take (i+1))=X1 sep (xs.take i)++((if i=0 then [] else sep)++xs[i]):=by
 rw [List.take_add_one,List.getElem?_eq_getElem h]
 simp only [Option.toList_some]
 rw [b4o]
 by_cases hi:i=0
 · subst hi;simp
 · have:¬ xs.take i=[]:=by
    intro e
    have:=congrArg List.length e
    rw [List.length_take,List.length_nil] at this
    omega
   rw [if_neg this,if_neg hi]
theorem b3d {B:Nat} {sep:Tx}:∀ {xs:List Tx},(∀ x∈xs,x.length+sep.length≤B)→((xs.map (sep++·)).flatten).length≤xs.length*B
 | [],_=>by simp
 | x :: xs,h=>by
  have h1:=h x (by simp)
  have h2:=b3d (xs:=xs) fun y hy=>h y (by simp [hy])
  simp only [List.map_cons,List.flatten_cons,List.length_append,List.length_cons,Nat.add_mul] at *
  omega
theorem b0f {B:Nat} {sep:Tx} {xs:List Tx} (h:∀ x∈xs,x.length+sep.length≤B):(X1 sep xs).length≤xs.length*B:=by
 cases xs with
 | nil=>simp [X1]
 | cons x xs=>
  have h1:=h x (by simp)
  have h2:=b3d (xs:=xs) fun y hy=>h y (by simp [hy])
  simp only [X1,List.length_append,List.length_cons,Nat.add_mul] at *
  omega
end Go.KP
end
section
namespace Go.PW
open Go.RowKit Go.KP
theorem b75 {a b:UInt8}:((a.toNat:Int)=(b.toNat:Int))↔a=b:=by
 constructor
 · intro h;exact UInt8.toNat_inj.1 (by omega)
 · rintro rfl;rfl
def rvb (c:UInt8):RV:=.int .u8 c.toNat
def tx (t:Tx):RV:=.str (bs t)
def num (n:Int):RV:=.int .i64 n
theorem a3r (l:Tx):S6 (l.map rvb)=bs l:=by
 unfold S6 bs
 congr 1
 congr 1
 rw [List.map_map]
 have:(RV.byte ∘ rvb)=id:=by
  funext c
  simp [rvb,RV.byte]
 rw [this];simp
theorem X5 {x:Int} (h1:0≤x) (h2:x < 256):IntKind.u8.wrap x=x:=by
 unfold IntKind.wrap
 simp [IntKind.bits,IntKind.signed]
 omega
def rvUrl (u:LUrl):RV:=.agg [tx u.scheme,tx u.user,tx u.host,num u.port,tx u.path,tx u.query,tx u.frag,.bool u.hasQ,.bool u.hasF]
end Go.PW
end
section
namespace Go.PW
open Go.RowKit Go.KP
variable [GF]
theorem b8q (φ:Nat→Option RV) (rs:List RV):PV.plL (PV.frzL φ (rs.map .val))=rs.map .val:=by
 induction rs with
 | nil=>rfl
 | cons r rs ih=>simp [PV.frzL,PV.plL,PV.frz,PV.pl,ih]
def a7m (u:LUrl):List PV:=[.val (tx u.scheme),.val (tx u.user),.val (tx u.host),.val (num u.port),.val (tx u.path),.val (tx u.query),.val (tx u.frag),.val (.bool u.hasQ),.val (.bool u.hasF)]
def b8s (r:LUrl×Bool):PV:=.tup [.val (rvUrl r.1),.val (.bool r.2)]
def a7y (x:LTarget):RV:=.agg [tx x.url,num x.prio,num x.weight]
def b8d (x:LPeer):RV:=.agg [tx x.target.url,num x.target.prio,num x.target.weight,num x.fails,num x.retry,.bool x.gone]
theorem b9z {P:Program} {st:St} {Ke:Kx (PV→St→Prop)} {kx:Kx (RV→St→Prop)} {d f ps as p} (ha:N1 st.mem ps=some as) (hb:boxIds ps=[]) (hs:∀ b,p.shift b=p) (ho:p.ownLt 0=true) (hr:ps.all PV.noOwn=true∨p.flat=true) (h:v7 P f as (.ret p []) []) (hK:Ke.k p st):KC P st d f ps (Ke:=Ke) (kx:=kx):=by
 refine a1j (K:=fun q st'=>q=p∧st'=st) (kx:=fun _ _=>False) (fun p s hh=>by obtain ⟨rfl,rfl⟩:=hh;exact hK) (fun _ _ hh=>hh.elim) (a1x ?_)
 unfold a0t
 rw [ha]
 exact ⟨hb,p,h,hs,ho,hr,rfl⟩
theorem b9y {P:Program} {st:St} {Kp:Kx (PV→Prop)} {f ps as p} (ha:N1 st.mem ps=some as) (hb:boxIds ps=[]) (hs:∀ b,p.shift b=p) (ho:p.ownLt 0=true) (hr:ps.all PV.noOwn=true∨p.flat=true) (h:v7 P f as (.ret p []) []) (hK:Kp.k p):KX P st f ps (Kp:=Kp):=by
 unfold KX a0t
 rw [ha]
 exact ⟨hb,p,h,hs,ho,hr,hK⟩
theorem R8 {P:Program} {st:St} {Ke:Kx (PV→St→Prop)} {kx:Kx (RV→St→Prop)} {d f ps as a b} (ha:N1 st.mem ps=some as) (hb:boxIds ps=[]) (hr:ps.all PV.noOwn=true∨(PV.tup [.val a,.val b]).flat=true) (h:v7 P f as (.ret (.tup [.val a,.val b]) []) []) (hK:Ke.k (.tup [.val a,.val b]) st):KC P st d f ps (Ke:=Ke) (kx:=kx):=
 b9z ha hb (fun _=>rfl) rfl hr h hK
theorem a34 {P:Program} {st:St} {Kp:Kx (PV→Prop)} {f ps as a b} (ha:N1 st.mem ps=some as) (hb:boxIds ps=[]) (hr:ps.all PV.noOwn=true∨(PV.tup [.val a,.val b]).flat=true) (h:v7 P f as (.ret (.tup [.val a,.val b]) []) []) (hK:Kp.k (.tup [.val a,.val b])):KX P st f ps (Kp:=Kp):=
 b9y ha hb (fun _=>rfl) rfl hr h hK
end Go.PW
end
section
namespace Go.PW
open Go.RowKit Go.KP
variable [GF]
def RV.sv:RV→Option Value
 | .str s=>some (.string s)
 | .int k n=>some (.int k n)
 | .bool b=>some (.bool b)
 | _=>none
def svs:List RV→Option (List Value)
 | []=>some []
 | r :: rs=>match r.sv,svs rs with
  | some v,some vs=>some (v :: vs)
  | _,_=>none
theorem sv_rep {L:Nat→Prop} {w:World} {r:RV} {v u:Value} (h:r.sv=some v) (hr:RepR L w r u):u=v:=by
 cases hr with
 | bool b=>simpa [RV.sv] using h
 | int k n=>simpa [RV.sv] using h
 | str s=>simpa [RV.sv] using h
 | _=>simp [RV.sv] at h
theorem sv_self {L:Nat→Prop} {w:World} {r:RV} {v:Value} (h:r.sv=some v):RepR L w r v:=by
 cases r with
 | bool b=>simp [RV.sv] at h;subst h;exact .bool b
 | int k n=>simp [RV.sv] at h;subst h;exact .int k n
 | str s=>simp [RV.sv] at h;subst h;exact .str s
 | _=>simp [RV.sv] at h
theorem a7i {L:Nat→Prop} {w:World}:∀ {rs:List RV} {vals vs:List Value} {ms:List Nat},svs rs=some vals→ArgsRep L w (rs.map .val) vs ms→vs=vals∧ms=[]
 | [],vals,vs,ms,h,hr=>by
  simp [svs] at h;subst h
  cases hr;exact ⟨rfl,rfl⟩
 | r :: rs,vals,vs,ms,h,hr=>by
  rw [List.map_cons] at hr
  cases hr with
  | cons _ _ v vs' ms1 ms2 h1 h2=>
   cases h1 with
   | val _ _ h1=>
    simp only [svs] at h
    split at h
    · rename_i v' vs'' e1 e2
      obtain ⟨rfl,rfl⟩:=a7i e2 h2
      have:=sv_rep e1 h1
      subst this
      have:=Option.some.inj h
      exact ⟨this,rfl⟩
    · cases h
theorem a3a {F:Ctx} {γ:Nat→Value} {w:World}:MemInv F γ (N0 []) w:=
 ⟨fun id cs h=>by simp [N0] at h,fun id E sz xs h=>by simp [N0] at h,fun id E sz n c h=>by simp [N0] at h,fun id s clk m h=>by simp [N0] at h,fun id id' b h=>by simp [N0,MObj.live] at h⟩
theorem b7t {P:Program} {f:Nat} {rs:List RV} {vals:List Value} {p:PV} {v:Value} (ha:svs rs=some vals) (hp:∀ γ L w,RepP γ L w p v)
 (h:∀ L w,Globs L w→a96 L w→Calls P f vals.toArray w fun e w'=>e=.returned v∧Below w.heap.size w w'):v7 P f (rs.map .val) (.ret p []) []:=by
 intro L w vs ms hL hgl hgb hargs hnd
 obtain ⟨rfl,rfl⟩:=a7i ha hargs
 refine (h L w hgl hgb).mono fun e w' ⟨he,hb⟩=>?_
 exact ⟨Outside.of_below hb,v,fun _=>undef,he,hp _ _ _,a3a,rfl,fun i b cells h1 h2=>by simp at h1⟩
theorem a42 {P:Program} {f:Nat} {rs:List RV} {vals:List Value} {r:RV} {v:Value} (ha:svs rs=some vals) (hv:r.sv=some v)
 (h:∀ L w,Globs L w→a96 L w→Calls P f vals.toArray w fun e w'=>e=.returned v∧Below w.heap.size w w'):v7 P f (rs.map .val) (.ret (.val r) []) []:=
 b7t ha (fun γ L w=>.val _ _ (sv_self hv)) h
theorem a45 {w w':World} (h:w'=w):Below w.heap.size w w':=by subst h;exact Below.refl _ _
end Go.PW
end
section
namespace Go.PW
open Go.RowKit Go.KP
variable [GF]
def a9h (M:Nat→MObj):List Nat→List (List RV)→Prop
 | [],[]=>True
 | id :: ids,b :: bs=>M id=.box (b.map .val)∧a9h M ids bs
 | _,_=>False
def S2 (M:Nat→MObj):Nat→List (List RV)→Prop
 | _,[]=>True
 | k,b :: bs=>M (900+k)=.box (b.map .val)∧S2 M (k+1) bs
theorem a4d:∀ {M:Nat→MObj} {ids:List Nat} {B:List (List RV)},a9h M ids B→Q4 M ids B=M
 | M,[],[],_=>rfl
 | M,id :: ids,b :: bs,h=>by
  have e:upd id (.box (b.map .val)) M=M:=by
   funext x
   by_cases hx:x=id
   · subst hx;rw [O1,h.1]
   · rw [O0 _ _ _ _ hx]
  simp only [Q4]
  rw [e]
  exact a4d h.2
 | M,[],_ :: _,h=>h.elim
 | M,_ :: _,[],h=>h.elim
theorem a98:∀ {M:Nat→MObj} {ids:List Nat} {B:List (List RV)},a9h M ids B→B.length=ids.length
 | M,[],[],_=>rfl
 | M,id :: ids,b :: bs,h=>by simp [a98 h.2]
 | M,[],_ :: _,h=>h.elim
 | M,_ :: _,[],h=>h.elim
theorem b19 (b:List RV):L2 (b.map .val)=some b:=by
 induction b with
 | nil=>rfl
 | cons r b ih=>simp [L2,ih]
theorem a2x {st:St}:∀ {k:Nat} {B:List (List RV)},S2 st.mem k B→a1l st.fin k B
 | k,[],_=>trivial
 | k,b :: B,h=>by
  have e2:st.fin.mem (900+k)=.box (b.map .val):=by
   simp only [St.fin,St.freeze,h.1,MObj.pl,b8q]
  exact ⟨by rw [e2];exact b19 b,a2x h.2⟩
def RetB (res:List Rs) (p:PV) (B:List (List RV)):PExit→St→Prop
 | .normal,st=>O2 res st.fin=some p∧S2 st.mem 0 B
 | .ret,st=>O2 res st.fin=some p∧S2 st.mem 0 B
 | _,_=>False
@[simp] theorem a5x {res p B} {st:St}:RetB res p B .ret st=(O2 res st.fin=some p∧S2 st.mem 0 B):=by rfl
@[simp] theorem RetB_normal {res p B} {st:St}:RetB res p B .normal st=(O2 res st.fin=some p∧S2 st.mem 0 B):=by rfl
theorem a6i {P:Program} {f:Nat} {c:PC} {res:List Rs} {as:List AV} {p:PV} {B:List (List RV)} (hm:P.follows .mixedOrders=true) (hc:M9 P f c as.length res=true) (hb:a7 as=B) (hp:∀ ι,p.ren ι=p)
 (h:S8 P c (f5 as) (RetB res p B)):v7 P f as (.ret p []) B:=by
 refine a7g hm hc (R7 (fun e s hh=>?_) h)
 have key:O2 res s.fin=some p∧S2 s.mem 0 B→∃ st',Le s st'∧b18 res (a7 as).length (.ret p []) B .ret st':=fun hh=>
  ⟨s.fin,(Le.freeze s _).trans (Le.plain _),(by rw [hb]),⟨⟨id,by rw [hp];exact hh.1,fun i j hi=>by simp at hi,fun i r hr=>by simp at hr⟩,a2x hh.2⟩⟩
 cases e with
 | normal=>exact key hh
 | ret=>exact key hh
 | exit id=>exact hh.elim
 | pan r=>exact hh.elim
theorem a5h (st:St):st.kill (fun _=>false)=st:=by
 cases st with
 | mk env mem=>
  simp only [St.kill,PV.kill_none]
  congr 1
  funext x
  cases mem x with
  | dead=>rfl
  | row E sz xs=>rfl
  | box cs=>simp [MObj.kill,PV.killL_none]
  | prow E sz n c=>simp [MObj.kill,PV.kill_none]
  | map s clk m => 
   have:(fun k=>(m k).map fun p=>(p.1.kill fun _=>false,p.2))=m:=by funext k;cases m k<;>simp [PV.kill_none]
   simp only [MObj.kill,this];rfl
theorem a40 {P:Program} {st:St} {Ke:Kx (PV→St→Prop)} {kx:Kx (RV→St→Prop)} {d f ps as r ids B} (ha:N1 st.mem ps=some as) (hb:boxIds ps=ids) (hn:ids.Nodup) (hlt:ids.all (· < M5 d)=true) (hB:a9h st.mem ids B) (hr:ps.all PV.noOwn=true)
 (h:v7 P f as (.ret (.val r) []) B) (hK:Ke.k (.val r) st):KC P st d f ps (Ke:=Ke) (kx:=kx):=by
 unfold KC
 refine .inl ?_
 unfold a16
 rw [ha]
 refine ⟨by rw [hb];exact hn,by rw [hb];exact hlt,.ret (.val r) [],B,h,by rw [hb];exact a98 hB,rfl,.inl hr,?_⟩
 have e:(fun i=>decide (M5 d≤i) && decide (i < M5 d+([]:List Row).length))=fun _=>false:=by
  funext i
  simp only [List.length_nil,Nat.add_zero,Bool.and_eq_false_imp,decide_eq_true_eq,decide_eq_false_iff_not]
  omega
 rw [e,a5h]
 simp only [Y9,hb]
 rw [a4d hB]
 exact hK
end Go.PW
end
section
namespace Go.PW
open Go.RowKit Go.KP
def U6 {α:Type} (sz id:Nat):List α→PV
 | []=>.emp sz
 | _ :: _=>.own id
def a1q {α:Type} (E sz:Nat) (r:α→RV):List α→MObj
 | []=>.dead
 | x :: xs=>.row E sz ((x :: xs).map r)
@[simp] theorem ownOr_nil {α:Type} (sz id:Nat):U6 sz id ([]:List α)=.emp sz:=rfl
@[simp] theorem ownOr_cons {α:Type} (sz id:Nat) (x:α) (xs:List α):U6 sz id (x :: xs)=.own id:=rfl
@[simp] theorem rowOr_nil {α:Type} (E sz:Nat) (r:α→RV):a1q E sz r []=.dead:=rfl
@[simp] theorem rowOr_cons {α:Type} (E sz:Nat) (r:α→RV) (x:α) (xs:List α):a1q E sz r (x :: xs)=.row E sz (r x :: xs.map r):=rfl
theorem a79 {α:Type} (sz id:Nat) (xs:List α) (x:α):U6 sz id (xs++[x])=.own id:=by cases xs<;>rfl
theorem a73 {α:Type} (E sz:Nat) (r:α→RV) (xs:List α) (x:α):a1q E sz r (xs++[x])=.row E sz (xs.map r++[r x]):=by cases xs<;>simp [a1q]
theorem Le.mkD [GF] {st:St} (le:List (Nat×PV)) (lm:List (Nat×MObj)) (h1:∀ kp∈le,st.env kp.1=kp.2) (h2:∀ kp∈lm,kp.2=.dead∨st.mem kp.1=kp.2):Le st ⟨P4 le,O7 lm⟩:=by
 refine Le.drop (fun i=>?_) (fun x=>?_)
 · show O7 lm i=st.mem i∨O7 lm i=.dead
   induction lm with
   | nil=>exact .inr rfl
   | cons kp lm ih=>
    obtain ⟨k,o⟩:=kp
    simp only [O7]
    split
    · rename_i e;subst e
      rcases h2 (i,o) (by simp) with h | h
      · exact .inr h
      · exact .inl h.symm
    · exact ih fun kp hkp=>h2 kp (by simp [hkp])
 · show Wk (st.env x) (P4 le x)
   induction le with
   | nil=>exact .undef _
   | cons kp le ih=>
    obtain ⟨k,p⟩:=kp
    simp only [P4]
    split
    · rename_i e;subst e;rw [h1 (x,p) (by simp)];exact .refl p
    · exact ih fun kp hkp=>h1 kp (by simp [hkp])
@[simp] theorem rvTarget_len (x:LTarget):(a7y x).cells.length=3:=rfl
@[simp] theorem rvPeer_len (x:LPeer):(b8d x).cells.length=6:=rfl
def rvGroup (x:LGroup):RV:=.agg [tx x.name,num x.age,.list 3 (x.targets.map a7y)]
@[simp] theorem rvGroup_len (x:LGroup):(rvGroup x).cells.length=3:=rfl
def b33 (x:LRule):RV:=.agg [tx x.name,.list 1 (x.words.map tx)]
@[simp] theorem rvRule_len (x:LRule):(b33 x).cells.length=2:=rfl
def b8c (x:LPolicy):RV:=.agg [tx x.reportTo,.list 1 (x.uris.map tx),.list 2 (x.rules.map b33)]
@[simp] theorem rvPolicy_len (x:LPolicy):(b8c x).cells.length=3:=rfl
def b2g (x:LViolation):RV:=.agg [tx x.document,tx x.referrer,tx x.blocked,tx x.source,tx x.directive,tx x.sample,num x.line,num x.column,.bool x.redirected]
@[simp] theorem b72 (x:LViolation):(b2g x).cells.length=9:=rfl
def a7z (x:LReport):RV:=.agg [num x.id,num x.born,num x.tries,tx x.body]
@[simp] theorem rvReport_len (x:LReport):(a7z x).cells.length=4:=rfl
def rvQueue (x:LQueue):RV:=.agg [.list 4 (x.items.map a7z),.list 1 (x.recent.map tx)]
@[simp] theorem rvQueue_len (x:LQueue):(rvQueue x).cells.length=2:=rfl
def a99 (x:LChannel):RV:=.agg [tx x.group.name,num x.group.age,.list 3 (x.group.targets.map a7y),.list 6 (x.peers.map b8d),.list 4 (x.queue.items.map a7z),.list 1 (x.queue.recent.map tx)]
@[simp] theorem rvChannel_len (x:LChannel):(a99 x).cells.length=6:=rfl
def b5u (x:LEntry):RV:=.agg [num x.kind,num x.id,num x.at_]
@[simp] theorem rvEntry_len (x:LEntry):(b5u x).cells.length=3:=rfl
def b8b (x:LWire):RV:=.agg [num x.at_,num x.status,tx x.group,tx x.url,.list 1 (x.ids.map num),tx x.body,.bool x.lost]
@[simp] theorem rvWire_len (x:LWire):(b8b x).cells.length=7:=rfl
def rvPipe (x:LPipe):RV:=.agg [.list 6 (x.channels.map a99),tx x.policy.reportTo,.list 1 (x.policy.uris.map tx),.list 2 (x.policy.rules.map b33),num x.now,num x.next,.list 3 (x.log.map b5u),.list 7 (x.wires.map b8b)]
@[simp] theorem rvPipe_len (x:LPipe):(rvPipe x).cells.length=8:=rfl
def rvEvent (x:LEvent):RV:=.agg [num x.kind,num x.draw,num x.status,num x.ticks,tx x.text,tx x.name,tx x.violation.document,tx x.violation.referrer,tx x.violation.blocked,tx x.violation.source,tx x.violation.directive,tx x.violation.sample,num x.violation.line,num x.violation.column,.bool x.violation.redirected,.bool x.lost]
@[simp] theorem rvEvent_len (x:LEvent):(rvEvent x).cells.length=16:=rfl
def H9 (x:LParcel):RV:=.agg [num x.id,num x.age,tx x.body]
@[simp] theorem rvParcel_len (x:LParcel):(H9 x).cells.length=3:=rfl
def rvBox (x:LBox):RV:=.agg [.list 1 (x.ids.map num),.list 1 (x.times.map num),.list 1 (x.bodies.map tx)]
@[simp] theorem rvBox_len (x:LBox):(rvBox x).cells.length=3:=rfl
end Go.PW
end
section
namespace Go.KP
def hexs:Tx:=[48,49,50,51,52,53,54,55,56,57,97,98,99,100,101,102]
def qb (c:UInt8):Tx:=if c.toNat=34∨c.toNat=92 then [92,c] else if 32≤c.toNat∧c.toNat≤126 then [c] else [92,117,48,48,hexs.getD (c.toNat / 16) 0,hexs.getD (c.toNat % 16) 0]
def Z9 (t:Tx):Tx:=t.flatMap qb
def Z1 (t:Tx):Tx:=34 :: (Z9 t++[34])
theorem qb_len (c:UInt8):(qb c).length≤6:=by 
 unfold qb
 split
 · simp
 · split<;>simp
theorem a2b (t:Tx):(Z9 t).length≤6*t.length:=by
 induction t with
 | nil=>simp [Z9]
 | cons c t ih=>have:=qb_len c;simp only [Z9,List.flatMap_cons,List.length_append,List.length_cons] at *;omega
theorem a2q (t:Tx):(Z1 t).length≤6*t.length+2:=by have:=a2b t;simp [Z1];omega
theorem a77 (t:Tx) (i:Nat) (h:i < t.length):Z9 (t.take (i+1))=Z9 (t.take i)++qb t[i]:=by
 unfold Z9;rw [List.take_add_one,List.getElem?_eq_getElem h,List.flatMap_append];simp
inductive LJson where
 | mk (kind num:Int) (text:Tx) (names:List Tx) (items:List LJson)
def LJson.kind:LJson→Int | .mk k _ _ _ _=>k
def LJson.num:LJson→Int | .mk _ n _ _ _=>n
def LJson.text:LJson→Tx | .mk _ _ t _ _=>t
def LJson.names:LJson→List Tx | .mk _ _ _ ns _=>ns
def LJson.items:LJson→List LJson | .mk _ _ _ _ is=>is
def Q6:Int→List Tx→List Tx→List Tx
 | 6,n :: ns,t :: ts=>(Z1 n++58 :: t) :: Q6 6 ns ts
 | _,_,ts=>ts
theorem Y2:∀ (k:Int) (ns ts:List Tx),(Q6 k ns ts).length=ts.length
 | _,[],ts=>by unfold Q6;split<;>simp_all
 | _,_ :: _,[]=>by unfold Q6;split<;>simp_all
 | k,n :: ns,t :: ts=>by
  unfold Q6
  split
  · rename_i h1 h2;cases h1;cases h2;simp [Y2 6 ns ts]
  · rfl
theorem a0e {k:Int} (hk:k≠6) (ns ts:List Tx):Q6 k ns ts=ts:=by
 unfold Q6;split
 · exact absurd rfl hk
 · rfl
theorem a4s:∀ (ns ts:List Tx),ns.length=ts.length→∀ i (h1:i < ns.length) (h2:i < ts.length) (h3:i < (Q6 6 ns ts).length),(Q6 6 ns ts)[i]=Z1 ns[i]++58 :: ts[i]
 | [],_,_,i,h1,_,_=>by simp at h1
 | n :: ns,[],h,_,_,_,_=>by simp at h
 | n :: ns,t :: ts,h,0,_,_,_=>by simp [Q6]
 | n :: ns,t :: ts,h,i+1,h1,h2,h3=>by
  simp only [Q6,List.getElem_cons_succ]
  exact a4s ns ts (by simpa using h) i _ _ _
theorem b3i (n:Nat) (h:n < 1000000000):(X9 n).length≤9:=a8j 8 n (by omega)
end Go.KP
end
section
namespace Go.PW
open Go.KP
mutual
def D8:LJson→RV
 | .mk k n t ns is=>.agg [num k,num n,tx t,.list 1 (ns.map tx),.list 5 (W6 is)]
def W6:List LJson→List RV
 | []=>[]
 | x :: xs=>D8 x :: W6 xs
end
theorem b2h (l:List LJson):W6 l=l.map D8:=by
 induction l with
 | nil=>rfl
 | cons x xs ih=>simp [W6,ih]
theorem m7 (k n:Int) (t:Tx) (ns:List Tx) (is:List LJson):D8 (.mk k n t ns is)=.agg [num k,num n,tx t,.list 1 (ns.map tx),.list 5 (is.map D8)]:=by rw [D8,b2h]
end Go.PW
end
section
namespace Go.KP
inductive JR (α:Type) where
 | err (c:Int)
 | ok (v:α) (i:Nat)
def jws (c:UInt8):Bool:=decide (c.toNat=32∨c.toNat=9∨c.toNat=10∨c.toNat=13)
def b8 (t:Tx) (i:Nat):Nat:=i+((t.drop i).takeWhile jws).length
theorem b21 {t:Tx} {i:Nat} (h:i < t.length) (hw:jws t[i]=true):b8 t i=b8 t (i+1):=by
 unfold b8
 rw [List.drop_eq_getElem_cons h,List.takeWhile_cons,if_pos hw]
 simp;omega
theorem b22 {t:Tx} {i:Nat} (h:i < t.length) (hw:jws t[i]=false):b8 t i=i:=by
 unfold b8
 rw [List.drop_eq_getElem_cons h,List.takeWhile_cons,if_neg (by simp [hw])]
 simp
theorem b0i {t:Tx} {i:Nat} (h:t.length≤i):b8 t i=i:=by
 unfold b8
 rw [List.drop_eq_nil_of_le h];simp
theorem O9 {t:Tx} {i:Nat} (h:i≤t.length):b8 t i≤t.length:=by
 have h1:=(List.takeWhile_sublist (p:=jws) (l:=t.drop i)).length_le
 rw [List.length_drop] at h1
 unfold b8;omega
def a1h (c:UInt8):Option Nat:=if 48≤c.toNat∧c.toNat≤57 then some (c.toNat - 48) else if 97≤c.toNat∧c.toNat≤102 then some (c.toNat - 87) else if 65≤c.toNat∧c.toNat≤70 then some (c.toNat - 55) else none
theorem a5q {c:UInt8} {n:Nat} (h:a1h c=some n):n < 16:=by
 unfold a1h at h
 split at h
 · cases h;omega
 · split at h
   · cases h;omega
   · split at h
     · cases h;omega
     · cases h
def a1t (c:UInt8):Option UInt8:=if c=34∨c=92∨c=47 then some c else if c=98 then some 8 else if c=102 then some 12 else if c=110 then some 10 else if c=114 then some 13 else if c=116 then some 9 else none
def a6e (t:Tx) (i:Nat):Option (UInt8×Nat):=
 if i < t.length then match a1t (t.getD i 0) with
  | some b=>some (b,i+1)
  | none=>if t.getD i 0=117∧i+5≤t.length∧t.getD (i+1) 0=48∧t.getD (i+2) 0=48 then match a1h (t.getD (i+3) 0),a1h (t.getD (i+4) 0) with
   | some a,some b=>some (UInt8.ofNat (16*a+b),i+5)
   | _,_=>none
   else none
 else none
theorem b1s {t:Tx} {i:Nat} {b:UInt8} {k:Nat} (h:a6e t i=some (b,k)):i < k∧k≤t.length:=by
 unfold a6e at h
 split at h
 · rename_i hi
   split at h
   · cases h;omega
   · split at h
     · rename_i hh
       split at h
       · cases h;omega
       · cases h
     · cases h
 · cases h
def b1q (t:Tx):Nat→Nat→Tx→JR Tx
 | 0,_,_=>.err 3
 | n+1,i,out=>if i < t.length then
  (if t.getD i 0=34 then (if 120 < out.length then .err 8 else .ok out (i+1))
   else if t.getD i 0=92 then (match a6e t (i+1) with | some (b,k)=>b1q t n k (out++[b]) | none=>.err 3)
   else if 32≤(t.getD i 0).toNat∧(t.getD i 0).toNat≤126 then b1q t n (i+1) (out++[t.getD i 0]) else .err 3)
  else .err 3
def a0i (t:Tx) (i:Nat):JR Tx:=if i < t.length∧t.getD i 0=34 then b1q t (t.length+1) (i+1) [] else .err 3
theorem b1p {t:Tx}:∀ {n i:Nat} {out v:Tx} {k:Nat},b1q t n i out=.ok v k→v.length≤120∧i < k∧k≤t.length
 | 0,i,out,v,k,h=>by cases h
 | n+1,i,out,v,k,h=>by
  unfold b1q at h
  split at h
  · rename_i hi
    split at h
    · split at h
      · cases h
      · cases h;omega
    · split at h
      · split at h
        · rename_i b k2 hb
          have:=b1p h
          have:=b1s hb
          omega
        · cases h
      · split at h
        · have:=b1p h;omega
        · cases h
  · cases h
theorem Y1 {t:Tx} {i:Nat} {v:Tx} {k:Nat} (h:a0i t i=.ok v k):v.length≤120∧i < k∧k≤t.length:=by
 unfold a0i at h
 split at h
 · have:=b1p h;omega
 · cases h
def X3 (t:Tx) (i:Nat):Nat:=i+((t.drop i).takeWhile P7).length
theorem b0n {t:Tx} {i:Nat} (h:i < t.length) (hw:P7 t[i]=true):X3 t i=X3 t (i+1):=by
 unfold X3
 rw [List.drop_eq_getElem_cons h,List.takeWhile_cons,if_pos hw]
 simp;omega
theorem a8r {t:Tx} {i:Nat} (h:i < t.length) (hw:P7 t[i]=false):X3 t i=i:=by
 unfold X3
 rw [List.drop_eq_getElem_cons h,List.takeWhile_cons,if_neg (by simp [hw])]
 simp
theorem a6f {t:Tx} {i:Nat} (h:t.length≤i):X3 t i=i:=by
 unfold X3
 rw [List.drop_eq_nil_of_le h];simp
theorem b9j (t:Tx) (i:Nat):i≤X3 t i:=by unfold X3;omega
theorem b9i {t:Tx} {i:Nat} (h:i≤t.length):X3 t i≤t.length:=by
 have h1:=(List.takeWhile_sublist (p:=P7) (l:=t.drop i)).length_le
 rw [List.length_drop] at h1
 unfold X3;omega
def a0p (t:Tx) (i:Nat):Nat:=if i < t.length∧t.getD i 0=45 then i+1 else i
theorem a8o {t:Tx} {i:Nat} (h:i≤t.length):i≤a0p t i∧a0p t i≤t.length:=by unfold a0p;split<;>omega
def a0a (t:Tx) (i:Nat):Nat:=X3 t (a0p t i)
theorem a5l {t:Tx} {i:Nat} (h:i≤t.length):i≤a0a t i∧a0a t i≤t.length:=by
 have h1:=a8o h
 have h2:=b9j t (a0p t i)
 have h3:=b9i h1.2
 unfold a0a;omega
def a3c (t:Tx) (i:Nat):JR Int:=match R4 ((t.take (a0a t i)).drop i) with
 | none=>.err 3
 | some n=>if -999999999≤n∧n≤999999999 then .ok n (a0a t i) else .err 4
def jnull:Tx:=[110,117,108,108]
def jtrue:Tx:=[116,114,117,101]
def jfalse:Tx:=[102,97,108,115,101]
def L4 (t w:Tx) (i:Nat):Bool:=decide ((t.take (i+w.length)).drop i=w)
def a6w (V:Nat→JR LJson) (t:Tx) (e:UInt8) (K:Nat→List Tx→List LJson→JR (List Tx×List LJson)) (k:Nat) (ns:List Tx) (xs:List LJson):JR (List Tx×List LJson):=match V k with
 | .err c=>.err c
 | .ok x k=>if 12 < xs.length+1 then .err 6 else
  if b8 t k < t.length∧t.getD (b8 t k) 0=e then .ok (ns,xs++[x]) (b8 t k+1)
  else if b8 t k < t.length∧t.getD (b8 t k) 0=44 then K (b8 t k+1) ns (xs++[x]) else .err 3
def a12 (V:Nat→JR LJson) (t:Tx) (obj:Bool) (e:UInt8):Nat→Nat→List Tx→List LJson→JR (List Tx×List LJson)
 | 0,_,_,_=>.err 6
 | n+1,i,ns,xs=>match obj with
  | false=>a6w V t e (a12 V t obj e n) (b8 t i) ns xs
  | true=>match a0i t (b8 t i) with
   | .err c=>.err c
   | .ok nm k=>if nm∈ns then .err 13 else
    if b8 t k < t.length∧t.getD (b8 t k) 0=58 then a6w V t e (a12 V t obj e n) (b8 t k+1) (ns++[nm]) xs else .err 3
def a4i (V:Nat→JR LJson) (t:Tx) (obj:Bool) (e:UInt8) (i:Nat):JR (List Tx×List LJson):=
 if b8 t i < t.length∧t.getD (b8 t i) 0=e then .ok ([],[]) (b8 t i+1) else a12 V t obj e 13 (b8 t i) [] []
def jmk (k:Int):JR (List Tx×List LJson)→JR LJson
 | .err c=>.err c
 | .ok v i=>.ok (.mk k 0 [] v.1 v.2) i
def a4q (t:Tx):Nat→Nat→JR LJson
 | d,i=>if b8 t i < t.length then
  (match t.getD (b8 t i) 0 with
   | 110=>if L4 t jnull (b8 t i) then .ok (.mk 1 0 [] [] []) (b8 t i+4) else .err 3
   | 116=>if L4 t jtrue (b8 t i) then .ok (.mk 2 1 [] [] []) (b8 t i+4) else .err 3
   | 102=>if L4 t jfalse (b8 t i) then .ok (.mk 2 0 [] [] []) (b8 t i+5) else .err 3
   | 34=>(match a0i t (b8 t i) with | .err c=>.err c | .ok v k=>.ok (.mk 4 0 v [] []) k)
   | 91=>(match d with | 0=>.err 12 | d+1=>jmk 5 (a4i (a4q t d) t false 93 (b8 t i+1)))
   | 123=>(match d with | 0=>.err 12 | d+1=>jmk 6 (a4i (a4q t d) t true 125 (b8 t i+1)))
   | _=>(match a3c t (b8 t i) with | .err c=>.err c | .ok n k=>.ok (.mk 3 n [] [] []) k))
  else .err 3
def a4h (t:Tx):JR LJson:=match a4q t 4 0 with
 | .err c=>.err c
 | .ok x k=>if b8 t k=t.length then .ok x t.length else .err 3
def P0:Nat→LJson→Prop
 | d,.mk k n t ns is=>(k=1∧n=0∧t=[]∧ns=[]∧is=[])∨(k=2∧(n=0∨n=1)∧t=[]∧ns=[]∧is=[])∨(k=3∧(-999999999≤n∧n≤999999999)∧t=[]∧ns=[]∧is=[]) ∨
  (k=4∧n=0∧t.length≤120∧ns=[]∧is=[]) ∨
  (n=0∧t=[]∧is.length≤12∧(k=5∧ns=[]∨k=6∧ns.length=is.length∧ns.Nodup∧∀ s∈ns,s.length≤120)∧match d with | 0=>False | d+1=>∀ x∈is,P0 d x)
def a2p (obj:Bool) (ns:List Tx) (xs:List LJson):Prop:=match obj with
 | false=>ns=[]
 | true=>ns.length=xs.length∧ns.Nodup∧∀ s∈ns,s.length≤120
theorem b7a {V:Nat→JR LJson} {t:Tx} {obj:Bool} {e:UInt8} {g:LJson→Prop} (hV:∀ i x k,V i=.ok x k→g x∧k≤t.length) :
 ∀ {n i:Nat} {ns:List Tx} {xs:List LJson} {v:List Tx×List LJson} {k:Nat},a2p obj ns xs→xs.length≤12→(∀ x∈xs,g x)→a12 V t obj e n i ns xs=.ok v k →
  a2p obj v.1 v.2∧v.2.length≤12∧(∀ x∈v.2,g x)∧k≤t.length:=by
 intro n
 induction n with
 | zero=>intro i ns xs v k _ _ _ h;cases h
 | succ n ih=>
  have item:∀ {p:Nat} {ns:List Tx} {xs:List LJson} {v:List Tx×List LJson} {k:Nat},(∀ x,a2p obj ns (xs++[x]))→xs.length≤12→(∀ x∈xs,g x)→a6w V t e (a12 V t obj e n) p ns xs=.ok v k →
   a2p obj v.1 v.2∧v.2.length≤12∧(∀ x∈v.2,g x)∧k≤t.length:=by
   intro p ns xs v k h1 h2 h3 h
   unfold a6w at h
   split at h
   · cases h
   · rename_i x k2 hx
     obtain ⟨g1,g2⟩:=hV _ _ _ hx
     have h3':∀ y∈xs++[x],g y:=fun y hy=>by
      rcases List.mem_append.1 hy with hy | hy
      · exact h3 y hy
      · rw [List.mem_singleton.1 hy];exact g1
     split at h
     · cases h
     · rename_i h12
       split at h
       · rename_i hh
         cases h
         exact ⟨h1 x,by simp;omega,h3',by omega⟩
       · split at h
         · exact ih (h1 x) (by simp;omega) h3' h
         · cases h
  intro i ns xs v k h1 h2 h3 h
  unfold a12 at h
  cases obj with
  | false=>exact item (fun x=>h1) h2 h3 h
  | true=>
   simp only [] at h
   split at h
   · cases h
   · rename_i nm k2 hq
     have hl:=(Y1 hq).1
     split at h
     · cases h
     · rename_i hnm
       split at h
       · refine item (fun x=>?_) h2 h3 h
         obtain ⟨a1,a2,a3⟩:=h1
         refine ⟨by simp [a1],?_,fun s hs=>?_⟩
         · rw [List.nodup_append]
           refine ⟨a2,by simp,fun a ha b hb=>?_⟩
           rw [List.mem_singleton.1 hb]
           rintro rfl
           exact hnm ha
         · rcases List.mem_append.1 hs with hs | hs
           · exact a3 s hs
           · rw [List.mem_singleton.1 hs];exact hl
       · cases h
theorem a8q {V:Nat→JR LJson} {t:Tx} {obj:Bool} {e:UInt8} {g:LJson→Prop} (hV:∀ i x k,V i=.ok x k→g x∧k≤t.length) {i:Nat} {v:List Tx×List LJson} {k:Nat} (h:a4i V t obj e i=.ok v k) :
 a2p obj v.1 v.2∧v.2.length≤12∧(∀ x∈v.2,g x)∧k≤t.length:=by
 have h0:a2p obj [] []:=by cases obj<;>simp [a2p]
 unfold a4i at h
 split at h
 · cases h
   exact ⟨h0,by simp,by simp,by omega⟩
 · exact b7a hV h0 (by simp) (by simp) h
theorem b4t {k0:Int} {r:JR (List Tx×List LJson)} {x:LJson} {k:Nat} (h:jmk k0 r=.ok x k):∃ v,r=.ok v k∧x=.mk k0 0 [] v.1 v.2:=by
 cases r with
 | err c=>cases h
 | ok v i=>cases h;exact ⟨v,rfl,rfl⟩
theorem T3 {t w:Tx} {i:Nat} (h:L4 t w i=true):i+w.length≤t.length∨w=[]:=by
 unfold L4 at h
 have h:=of_decide_eq_true h
 have h1:=congrArg List.length h
 simp only [List.length_drop,List.length_take] at h1
 by_cases hw:w=[]
 · exact .inr hw
 · have:=List.length_pos_iff.2 hw
   left;omega
theorem b59 (t:Tx):∀ (d i:Nat) (x:LJson) (k:Nat),a4q t d i=.ok x k→P0 d x∧k≤t.length:=by
 intro d
 induction d with
 | zero=>
  intro i x k h
  unfold a4q at h
  split at h
  · rename_i hi
    split at h
    · split at h
      · rename_i hw;cases h;exact ⟨by simp [P0],by rcases T3 hw with h | h;exact h;cases h⟩
      · cases h
    · split at h
      · rename_i hw;cases h;exact ⟨by simp [P0],by rcases T3 hw with h | h;exact h;cases h⟩
      · cases h
    · split at h
      · rename_i hw;cases h;exact ⟨by simp [P0],by rcases T3 hw with h | h;exact h;cases h⟩
      · cases h
    · split at h
      · cases h
      · rename_i v k2 hq;cases h;exact ⟨by simp [P0,(Y1 hq).1],(Y1 hq).2.2⟩
    · cases h
    · cases h
    · split at h
      · cases h
      · rename_i n k2 hq
        cases h
        unfold a3c at hq
        split at hq
        · cases hq
        · split at hq
          · rename_i hn;cases hq;exact ⟨by simp [P0,hn],(a5l (Nat.le_of_lt hi)).2⟩
          · cases hq
  · cases h
 | succ d ih=>
  intro i x k h
  unfold a4q at h
  split at h
  · rename_i hi
    split at h
    · split at h
      · rename_i hw;cases h;exact ⟨by simp [P0],by rcases T3 hw with h | h;exact h;cases h⟩
      · cases h
    · split at h
      · rename_i hw;cases h;exact ⟨by simp [P0],by rcases T3 hw with h | h;exact h;cases h⟩
      · cases h
    · split at h
      · rename_i hw;cases h;exact ⟨by simp [P0],by rcases T3 hw with h | h;exact h;cases h⟩
      · cases h
    · split at h
      · cases h
      · rename_i v k2 hq;cases h;exact ⟨by simp [P0,(Y1 hq).1],(Y1 hq).2.2⟩
    · simp only [] at h
      obtain ⟨v,h1,rfl⟩:=b4t h
      obtain ⟨g1,g2,g3,g4⟩:=a8q ih h1
      exact ⟨.inr (.inr (.inr (.inr ⟨rfl,rfl,g2,.inl ⟨rfl,g1⟩,g3⟩))),g4⟩
    · simp only [] at h
      obtain ⟨v,h1,rfl⟩:=b4t h
      obtain ⟨g1,g2,g3,g4⟩:=a8q ih h1
      exact ⟨.inr (.inr (.inr (.inr ⟨rfl,rfl,g2,.inr ⟨rfl,g1⟩,g3⟩))),g4⟩
    · split at h
      · cases h
      · rename_i n k2 hq
        cases h
        unfold a3c at hq
        split at hq
        · cases hq
        · split at hq
          · rename_i hn;cases hq;exact ⟨by simp [P0,hn],(a5l (Nat.le_of_lt hi)).2⟩
          · cases hq
  · cases h
theorem a5k {t:Tx} {x:LJson} {k:Nat} (h:a4h t=.ok x k):P0 4 x:=by
 unfold a4h at h
 split at h
 · cases h
 · rename_i x' k' hx
   split at h
   · cases h;exact (b59 t 4 0 _ _ hx).1
   · cases h
end Go.KP
end
section
namespace Go.KP
def a1g (t:Tx) (i:Nat):Nat:=
 if i < t.length then match a1t (t.getD i 0) with
  | some _=>i+1
  | none=>if t.getD i 0=117∧i+5≤t.length∧t.getD (i+1) 0=48∧t.getD (i+2) 0=48 then i+5 else i+1
 else i
theorem b9h {t:Tx} {i:Nat} (h:i≤t.length):i≤a1g t i∧a1g t i≤t.length:=by
 unfold a1g
 split
 · split
   · omega
   · split<;>omega
 · omega
def N6 (t:Tx) (i:Nat):Int×Nat×Int:=match a3c t i with
 | .ok n k=>(n,k,0)
 | .err e=>(0,i,e)
def a01 (t:Tx):Nat→Nat→Tx→Tx×Nat×Int
 | 0,i,_=>([],i,3)
 | n+1,i,out=>if i < t.length then
  (if t.getD i 0=34 then (out,i+1,if 120 < out.length then 8 else 0)
   else if t.getD i 0=92 then (match a6e t (i+1) with | some (b,k)=>a01 t n k (out++[b]) | none=>([],a1g t (i+1),3))
   else if 32≤(t.getD i 0).toNat∧(t.getD i 0).toNat≤126 then a01 t n (i+1) (out++[t.getD i 0]) else ([],i+1,3))
  else ([],i,3)
theorem a8n (t:Tx):∀ n i out,b1q t n i out=if (a01 t n i out).2.2=0 then .ok (a01 t n i out).1 (a01 t n i out).2.1 else .err (a01 t n i out).2.2
 | 0,i,out=>rfl
 | n+1,i,out=>by
  unfold b1q a01
  split
  · split
    · by_cases h:120 < out.length<;>simp [h]
    · split
      · cases a6e t (i+1) with
        | some p=>exact a8n t n p.2 _
        | none=>rfl
      · split
        · exact a8n t n _ _
        · rfl
  · rfl
theorem a8m (t:Tx):∀ n i out,i≤t.length→(a01 t n i out).2.1≤t.length∧(a01 t n i out).1.length≤out.length+n
 | 0,i,out,h=>by simp [a01,h]
 | n+1,i,out,h=>by
  unfold a01
  split
  · split
    · simp;omega
    · split
      · cases hj:a6e t (i+1) with
        | some p=>
         have h1:=b1s (b:=p.1) (k:=p.2) hj
         have:=a8m t n p.2 (out++[p.1]) h1.2
         simp at this ⊢;omega
        | none=>
         have:=b9h (t:=t) (i:=i+1) (by omega)
         simp;omega
      · split
        · have:=a8m t n (i+1) (out++[t.getD i 0]) (by omega)
          simp at this ⊢;omega
        · simp;omega
  · simp [h]
def N2 (t:Tx) (i:Nat):Tx×Nat×Int:=if i < t.length∧t.getD i 0=34 then a01 t (t.length+1) (i+1) [] else ([],i,3)
theorem b0h (t:Tx) (i:Nat):a0i t i=if (N2 t i).2.2=0 then .ok (N2 t i).1 (N2 t i).2.1 else .err (N2 t i).2.2:=by
 unfold a0i N2
 split
 · exact a8n t _ _ _
 · rfl
theorem a2e (t:Tx) (i:Nat) (h:i≤t.length):(N2 t i).2.1≤t.length∧(N2 t i).1.length≤t.length+1:=by
 unfold N2
 split
 · have:=a8m t (t.length+1) (i+1) [] (by omega)
   simp at this;omega
 · simp [h]
abbrev VR:=LJson×Nat×Int
def a5e (r:VR):JR LJson:=if r.2.2=0 then .ok r.1 r.2.1 else .err r.2.2
abbrev IR:=List Tx×List LJson×Nat×Int
def b2s (r:IR):JR (List Tx×List LJson):=if r.2.2.2=0 then .ok (r.1,r.2.1) r.2.2.1 else .err r.2.2.2
def a1f (g:Nat→VR) (t:Tx) (e:UInt8) (K:Nat→List Tx→List LJson→IR) (k:Nat) (ns:List Tx) (xs:List LJson):IR:=
 if (g k).2.2≠0 then (ns,xs++[(g k).1],b8 t (g k).2.1,(g k).2.2)
 else if 12 < xs.length+1 then (ns,xs++[(g k).1],b8 t (g k).2.1,6)
 else if b8 t (g k).2.1 < t.length∧t.getD (b8 t (g k).2.1) 0=e then (ns,xs++[(g k).1],b8 t (g k).2.1+1,0)
 else if b8 t (g k).2.1 < t.length∧t.getD (b8 t (g k).2.1) 0=44 then K (b8 t (g k).2.1+1) ns (xs++[(g k).1])
 else (ns,xs++[(g k).1],b8 t (g k).2.1,3)
def V6 (g:Nat→VR) (t:Tx) (obj:Bool) (e:UInt8):Nat→Nat→List Tx→List LJson→IR
 | 0,i,ns,xs=>(ns,xs,i,6)
 | n+1,i,ns,xs=>match obj with
  | false=>a1f g t e (V6 g t obj e n) (b8 t i) ns xs
  | true=>
   if (N2 t (b8 t i)).2.2≠0 then (ns++[(N2 t (b8 t i)).1],xs,b8 t (N2 t (b8 t i)).2.1,(N2 t (b8 t i)).2.2)
   else if (N2 t (b8 t i)).1∈ns then (ns++[(N2 t (b8 t i)).1],xs,b8 t (N2 t (b8 t i)).2.1,13)
   else if b8 t (N2 t (b8 t i)).2.1 < t.length∧t.getD (b8 t (N2 t (b8 t i)).2.1) 0=58 then a1f g t e (V6 g t obj e n) (b8 t (N2 t (b8 t i)).2.1+1) (ns++[(N2 t (b8 t i)).1]) xs
   else (ns++[(N2 t (b8 t i)).1],xs,b8 t (N2 t (b8 t i)).2.1,3)
def a0z (g:Nat→VR) (t:Tx) (obj:Bool) (e:UInt8) (i:Nat):IR:=
 if b8 t i < t.length∧t.getD (b8 t i) 0=e then ([],[],b8 t i+1,0) else V6 g t obj e 13 (b8 t i) [] []
theorem b6d {V:Nat→JR LJson} {g:Nat→VR} {t:Tx} {e:UInt8} {K:Nat→List Tx→List LJson→JR (List Tx×List LJson)} {K':Nat→List Tx→List LJson→IR} (k:Nat) (hV:V k=a5e (g k)) (hK:∀ i ns xs,i≤t.length→K i ns xs=b2s (K' i ns xs)) (ns:List Tx) (xs:List LJson) :
 a6w V t e K k ns xs=b2s (a1f g t e K' k ns xs):=by
 unfold a6w a1f
 rw [hV]
 unfold a5e
 by_cases h0:(g k).2.2=0
 · simp only [h0,if_true,ne_eq,not_true,if_false]
   split
   · rfl
   · split
     · rfl
     · split
       · rename_i h;exact hK _ _ _ (by omega)
       · rfl
 · simp only [h0,if_false,ne_eq,not_false_eq_true,if_true]
   unfold b2s
   simp only [h0,if_false]
theorem a8p {V:Nat→JR LJson} {g:Nat→VR} {t:Tx} {obj:Bool} {e:UInt8} (hV:∀ k,k≤t.length→V k=a5e (g k)):∀ (n i:Nat) (ns:List Tx) (xs:List LJson),i≤t.length→a12 V t obj e n i ns xs=b2s (V6 g t obj e n i ns xs)
 | 0,i,ns,xs,_=>rfl
 | n+1,i,ns,xs,hi=>by
  unfold a12 V6
  have h1:=O9 hi
  cases obj with
  | false=>exact b6d _ (hV _ h1) (fun i ns xs hi=>a8p hV n i ns xs hi) _ _
  | true=>
   simp only []
   have h2:=(a2e t _ h1).1
   have h3:=O9 h2
   rw [b0h]
   by_cases h0:(N2 t (b8 t i)).2.2=0
   · simp only [h0,if_true,ne_eq,not_true,if_false]
     split
     · rfl
     · split
       · rename_i h;exact b6d _ (hV _ (by omega)) (fun i ns xs hi=>a8p hV n i ns xs hi) _ _
       · rfl
   · simp only [h0,if_false,ne_eq,not_false_eq_true,if_true]
     unfold b2s
     simp only [h0,if_false]
theorem jlist_R {V:Nat→JR LJson} {g:Nat→VR} {t:Tx} {obj:Bool} {e:UInt8} (hV:∀ k,k≤t.length→V k=a5e (g k)) {i:Nat} (hi:i≤t.length):a4i V t obj e i=b2s (a0z g t obj e i):=by
 unfold a4i a0z
 split
 · rfl
 · exact a8p hV _ _ _ _ (O9 hi)
theorem b0m {g:Nat→VR} {t:Tx} {e:UInt8} {K':Nat→List Tx→List LJson→IR} (k:Nat) (hg:(g k).2.1≤t.length) (hK:∀ i ns xs,i≤t.length→(K' i ns xs).2.2.1≤t.length) (ns:List Tx) (xs:List LJson):(a1f g t e K' k ns xs).2.2.1≤t.length:=by
 have:=O9 hg
 unfold a1f
 split
 · exact this
 · split
   · exact this
   · split
     · simp only [];omega
     · split
       · exact hK _ _ _ (by omega)
       · exact this
theorem a4r {g:Nat→VR} {t:Tx} {obj:Bool} {e:UInt8} (hg:∀ k,k≤t.length→(g k).2.1≤t.length):∀ (n i:Nat) (ns:List Tx) (xs:List LJson),i≤t.length→(V6 g t obj e n i ns xs).2.2.1≤t.length
 | 0,i,ns,xs,h=>h
 | n+1,i,ns,xs,hi=>by
  unfold V6
  have h1:=O9 hi
  cases obj with
  | false=>exact b0m _ (hg _ h1) (fun i ns xs hi=>a4r hg n i ns xs hi) _ _
  | true=>
   simp only []
   have h2:=(a2e t _ h1).1
   have h3:=O9 h2
   split
   · exact h3
   · split
     · exact h3
     · split
       · exact b0m _ (hg _ (by omega)) (fun i ns xs hi=>a4r hg n i ns xs hi) _ _
       · exact h3
theorem b0l {g:Nat→VR} {t:Tx} {obj:Bool} {e:UInt8} (hg:∀ k,k≤t.length→(g k).2.1≤t.length) {i:Nat} (hi:i≤t.length):(a0z g t obj e i).2.2.1≤t.length:=by
 unfold a0z
 split
 · simp only [];omega
 · exact a4r hg _ _ _ _ (O9 hi)
def U7 (g:Nat→VR) (t:Tx) (e:UInt8) (k n:Nat):Bool×Nat×Int:=
 if (g k).2.2≠0 then (false,b8 t (g k).2.1,(g k).2.2)
 else if 12 < n+1 then (false,b8 t (g k).2.1,6)
 else if b8 t (g k).2.1 < t.length∧t.getD (b8 t (g k).2.1) 0=e then (true,b8 t (g k).2.1+1,0)
 else if b8 t (g k).2.1 < t.length∧t.getD (b8 t (g k).2.1) 0=44 then (false,b8 t (g k).2.1+1,0)
 else (false,b8 t (g k).2.1,3)
theorem b9g (g:Nat→VR) (t:Tx) (e:UInt8) (K:Nat→List Tx→List LJson→IR) (k:Nat) (ns:List Tx) (xs:List LJson) :
 a1f g t e K k ns xs=if (U7 g t e k xs.length).1=false∧(U7 g t e k xs.length).2.2=0 then K (U7 g t e k xs.length).2.1 ns (xs++[(g k).1]) else (ns,xs++[(g k).1],(U7 g t e k xs.length).2):=by
 unfold a1f U7
 split
 · rename_i h;simp [h]
 · split
   · simp
   · split
     · simp
     · split<;>simp
def a13 (t:Tx) (k:Nat) (ns:List Tx):Nat×Int:=
 if (N2 t k).2.2≠0 then (b8 t (N2 t k).2.1,(N2 t k).2.2)
 else if (N2 t k).1∈ns then (b8 t (N2 t k).2.1,13)
 else if b8 t (N2 t k).2.1 < t.length∧t.getD (b8 t (N2 t k).2.1) 0=58 then (b8 t (N2 t k).2.1+1,0)
 else (b8 t (N2 t k).2.1,3)
theorem b7b (g:Nat→VR) (t:Tx) (obj:Bool) (e:UInt8) (n i:Nat) (ns:List Tx) (xs:List LJson):V6 g t obj e (n+1) i ns xs=match obj with
 | false=>a1f g t e (V6 g t obj e n) (b8 t i) ns xs
 | true=>if (a13 t (b8 t i) ns).2=0 then a1f g t e (V6 g t obj e n) (a13 t (b8 t i) ns).1 (ns++[(N2 t (b8 t i)).1]) xs else (ns++[(N2 t (b8 t i)).1],xs,a13 t (b8 t i) ns):=by
 conv=>lhs;unfold V6
 cases obj with
 | false=>rfl
 | true=>
  simp only []
  unfold a13
  split
  · rename_i h;simp [h]
  · split
    · simp
    · split<;>simp
theorem b7e {g:Nat→VR} {t:Tx} {e:UInt8} {k n:Nat} (hg:(g k).2.1≤t.length):(U7 g t e k n).2.1≤t.length:=by
 have:=O9 hg
 unfold U7
 split
 · exact this
 · split
   · exact this
   · split
     · simp only [];omega
     · split
       · simp only [];omega
       · exact this
theorem b7c {t:Tx} {k:Nat} {ns:List Tx} (h:k≤t.length):(a13 t k ns).1≤t.length:=by
 have:=O9 (a2e t k h).1
 unfold a13
 split
 · exact this
 · split
   · exact this
   · split
     · simp only [];omega
     · exact this
theorem b1r {g:Nat→VR} {t:Tx} {e:UInt8} {k n:Nat} (h:(U7 g t e k n).2.2=0):n+1≤12:=by
 unfold U7 at h
 split at h
 · rename_i h1;exact absurd h h1
 · split at h
   · simp at h
   · omega
def a91 (t:Tx) (L:Bool→Nat→IR) (i:Nat):VR:=if b8 t i < t.length then
 (match t.getD (b8 t i) 0 with
  | 110=>if L4 t jnull (b8 t i) then (.mk 1 0 [] [] [],b8 t i+4,0) else (.mk 1 0 [] [] [],b8 t i,3)
  | 116=>if L4 t jtrue (b8 t i) then (.mk 2 1 [] [] [],b8 t i+4,0) else (.mk 2 1 [] [] [],b8 t i,3)
  | 102=>if L4 t jfalse (b8 t i) then (.mk 2 0 [] [] [],b8 t i+5,0) else (.mk 2 0 [] [] [],b8 t i,3)
  | 34=>(.mk 4 0 (N2 t (b8 t i)).1 [] [],(N2 t (b8 t i)).2.1,(N2 t (b8 t i)).2.2)
  | 91=>(.mk 5 0 [] (L false (b8 t i)).1 (L false (b8 t i)).2.1,(L false (b8 t i)).2.2.1,(L false (b8 t i)).2.2.2)
  | 123=>(.mk 6 0 [] (L true (b8 t i)).1 (L true (b8 t i)).2.1,(L true (b8 t i)).2.2.1,(L true (b8 t i)).2.2.2)
  | _=>(.mk 3 (N6 t (b8 t i)).1 [] [] [],(N6 t (b8 t i)).2.1,(N6 t (b8 t i)).2.2))
 else (.mk 0 0 [] [] [],b8 t i,3)
def b5b (obj:Bool):UInt8:=if obj then 125 else 93
def L0 (obj:Bool) (i:Nat):IR:=([],[],i,12)
def L1 (g:Nat→VR) (t:Tx) (obj:Bool) (i:Nat):IR:=a0z g t obj (b5b obj) (i+1)
def a2f (t:Tx):Nat→Nat→VR
 | 0=>a91 t L0
 | d+1=>a91 t (L1 (a2f t d) t)
theorem b4r (t:Tx) (i:Nat):a3c t i=if (N6 t i).2.2=0 then .ok (N6 t i).1 (N6 t i).2.1 else .err (N6 t i).2.2:=by
 unfold N6
 cases h:a3c t i with
 | ok n k=>simp
 | err e=>
  have he:e≠0:=by
   unfold a3c at h
   split at h
   · cases h;decide
   · split at h
     · cases h
     · cases h;decide
  simp [he]
theorem b4s {t:Tx} {i:Nat} (h:i≤t.length):(N6 t i).2.1≤t.length:=by
 unfold N6
 cases hj:a3c t i with
 | ok n k=>
  unfold a3c at hj
  split at hj
  · cases hj
  · split at hj
    · cases hj;exact (a5l h).2
    · cases hj
 | err e=>exact h
theorem b10 {t:Tx} {L:Bool→Nat→IR} (hL:∀ o k,k < t.length→(L o k).2.2.1≤t.length) {i:Nat} (hi:i≤t.length):(a91 t L i).2.1≤t.length:=by
 have h1:=O9 hi
 unfold a91
 split
 · rename_i hlt
   split
   · split
     · rename_i hw
       have:=T3 hw
       have e:jnull.length=4:=rfl
       simp only []
       rcases this with h | h
       · omega
       · cases h
     · exact h1
   · split
     · rename_i hw
       have:=T3 hw
       have e:jtrue.length=4:=rfl
       simp only []
       rcases this with h | h
       · omega
       · cases h
     · exact h1
   · split
     · rename_i hw
       have:=T3 hw
       have e:jfalse.length=5:=rfl
       simp only []
       rcases this with h | h
       · omega
       · cases h
     · exact h1
   · exact (a2e t _ h1).1
   · exact hL _ _ hlt
   · exact hL _ _ hlt
   · exact b4s h1
 · exact h1
theorem b3a (t:Tx):∀ d i,i≤t.length→(a2f t d i).2.1≤t.length
 | 0,i,hi=>b10 (fun o k hk=>Nat.le_of_lt hk) hi
 | d+1,i,hi=>b10 (fun o k hk=>b0l (fun k hk=>b3a t d k hk) hk) hi
def b6c (t:Tx) (d:Nat) (o:Bool) (k:Nat):JR LJson:=match d with
 | 0=>.err 12
 | d'+1=>jmk (if o then 6 else 5) (a4i (a4q t d') t o (b5b o) (k+1))
theorem jmk_of (k:Int) (r:IR):jmk k (b2s r)=a5e (.mk k 0 [] r.1 r.2.1,r.2.2.1,r.2.2.2):=by
 unfold b2s a5e
 by_cases h:r.2.2.2=0
 · rw [if_pos h,if_pos h];rfl
 · rw [if_neg h,if_neg h];rfl
theorem b69 (t:Tx) (d i:Nat):a4q t d i=if b8 t i < t.length then
 (match t.getD (b8 t i) 0 with
  | 110=>if L4 t jnull (b8 t i) then .ok (.mk 1 0 [] [] []) (b8 t i+4) else .err 3
  | 116=>if L4 t jtrue (b8 t i) then .ok (.mk 2 1 [] [] []) (b8 t i+4) else .err 3
  | 102=>if L4 t jfalse (b8 t i) then .ok (.mk 2 0 [] [] []) (b8 t i+5) else .err 3
  | 34=>(match a0i t (b8 t i) with | .err c=>.err c | .ok v k=>.ok (.mk 4 0 v [] []) k)
  | 91=>b6c t d false (b8 t i)
  | 123=>b6c t d true (b8 t i)
  | _=>(match a3c t (b8 t i) with | .err c=>.err c | .ok n k=>.ok (.mk 3 n [] [] []) k))
 else .err 3:=by
 cases d<;>(conv=>lhs;unfold a4q)<;>rfl
theorem b9d (t:Tx) (k:Nat):(match a0i t k with | .err c=>.err c | .ok v k=>.ok (.mk 4 0 v [] []) k)=a5e (.mk 4 0 (N2 t k).1 [] [],(N2 t k).2.1,(N2 t k).2.2):=by
 rw [b0h]
 unfold a5e
 by_cases h:(N2 t k).2.2=0
 · simp [h]
 · simp [h]
theorem b9e (t:Tx) (k:Nat):(match a3c t k with | .err c=>.err c | .ok n k=>.ok (.mk 3 n [] [] []) k)=a5e (.mk 3 (N6 t k).1 [] [] [],(N6 t k).2.1,(N6 t k).2.2):=by
 rw [b4r]
 unfold a5e
 by_cases h:(N6 t k).2.2=0
 · simp [h]
 · simp [h]
theorem b6l {t:Tx} {L:Bool→Nat→IR} {d i:Nat} (hn:∀ o k,k < t.length→b6c t d o k=a5e (.mk (if o then 6 else 5) 0 [] (L o k).1 (L o k).2.1,(L o k).2.2.1,(L o k).2.2.2)):a4q t d i=a5e (a91 t L i):=by
 rw [b69]
 unfold a91
 split
 · rename_i hlt
   split
   · split<;>rfl
   · split<;>rfl
   · split<;>rfl
   · exact b9d t _
   · exact hn false _ hlt
   · exact hn true _ hlt
   · exact b9e t _
 · rfl
theorem b29 (t:Tx):∀ d i,i≤t.length→a4q t d i=a5e (a2f t d i)
 | 0,i,hi=>b6l fun o k hk=>rfl
 | d+1,i,hi=>b6l fun o k hk=>by
  unfold b6c
  simp only []
  rw [jlist_R (fun k hk=>b29 t d k hk) hk]
  exact jmk_of _ _
def P2 (t:Tx):LJson×Int:=match a4h t with
 | .ok x _=>(x,0)
 | .err c=>(.mk 0 0 [] [] [],c)
theorem b6y (t:Tx):P2 t=if (a2f t 4 0).2.2=0 then (if b8 t (a2f t 4 0).2.1=t.length then ((a2f t 4 0).1,0) else (.mk 0 0 [] [] [],3)) else (.mk 0 0 [] [] [],(a2f t 4 0).2.2):=by
 unfold P2 a4h
 rw [b29 t 4 0 (Nat.zero_le _)]
 unfold a5e
 by_cases h:(a2f t 4 0).2.2=0
 · rw [if_pos h,if_pos h]
   simp only []
   by_cases h2:b8 t (a2f t 4 0).2.1=t.length
   · rw [if_pos h2,if_pos h2]
   · rw [if_neg h2,if_neg h2]
 · rw [if_neg h,if_neg h]
end Go.KP
end
section
namespace Go.KP
inductive JZ (α:Type) where
 | err (c:Int) (z:Nat)
 | ok (v:α) (i:Nat)
def JZ.jr {α:Type}:JZ α→JR α
 | .err c _=>.err c
 | .ok v i=>.ok v i
theorem Z3 (t w:Tx) (i:Nat):w.isPrefixOf (t.drop i)=L4 t w i:=by
 unfold L4
 rw [Bool.eq_iff_iff,decide_eq_true_eq,List.isPrefixOf_iff_prefix,List.prefix_iff_eq_take,List.take_drop]
 exact eq_comm
theorem a6d (t:Tx) (c:UInt8) (i:Nat):L4 t [c] i=decide (i < t.length∧t.getD i 0=c):=by
 rw [← Z3,Bool.eq_iff_iff,decide_eq_true_eq,List.isPrefixOf_iff_prefix]
 by_cases h:i < t.length
 · rw [List.drop_eq_getElem_cons h,List.cons_prefix_cons]
   have e:t.getD i 0=t[i]:=by simp [h]
   rw [e]
   constructor
   · rintro ⟨e,_⟩;exact ⟨h,e.symm⟩
   · rintro ⟨_,e⟩;exact ⟨e.symm,List.nil_prefix⟩
 · rw [List.drop_eq_nil_of_le (by omega)]
   constructor
   · intro hp
     have:=hp.length_le
     simp at this
   · rintro ⟨h1,_⟩;exact absurd h1 h
theorem Y0 {t:Tx} {c:UInt8} {w:Tx} {i:Nat} (h:L4 t (c :: w) i=true):i < t.length∧t.getD i 0=c:=by
 rw [← Z3,List.isPrefixOf_iff_prefix] at h
 by_cases hi:i < t.length
 · rw [List.drop_eq_getElem_cons hi,List.cons_prefix_cons] at h
   exact ⟨hi,by simp [hi,h.1]⟩
 · rw [List.drop_eq_nil_of_le (by omega)] at h
   have:=h.length_le
   simp at this
def a0x (t:Tx) (i:Nat):JZ Nat:=if i < t.length then (match a1h (t.getD i 0) with | some n=>.ok n (i+1) | none=>.err 3 (i+1)) else .err 3 i
def b8r (t:Tx) (i:Nat):JZ UInt8:=if i < t.length then (match a1t (t.getD i 0) with
 | some b=>.ok b (i+1)
 | none=>if t.getD i 0=117 then (if L4 t [48,48] (i+1) then (match a0x t (i+3) with
  | .err c z=>.err c z
  | .ok a k=>match a0x t k with
   | .err c z=>.err c z
   | .ok b k=>.ok (UInt8.ofNat (16*a+b)) k)
  else .err 3 (i+1)) else .err 3 (i+1))
 else .err 3 i
theorem a3w {t:Tx} {i a k:Nat} (h:a0x t i=.ok a k):i < t.length∧k=i+1∧a1h (t.getD i 0)=some a:=by
 unfold a0x at h
 split at h
 · rename_i hi
   split at h
   · rename_i n hn;cases h;exact ⟨hi,rfl,hn⟩
   · cases h
 · cases h
theorem a78 {t:Tx} {i:Nat} {c:Int} {z:Nat} (h:a0x t i=.err c z):c=3∧(i < t.length→a1h (t.getD i 0)=none):=by
 unfold a0x at h
 split at h
 · split at h
   · cases h
   · rename_i hn;cases h;exact ⟨rfl,fun _=>hn⟩
 · rename_i hi;cases h;exact ⟨rfl,fun h=>absurd h hi⟩
theorem a8l (t:Tx) (i:Nat):L4 t [48,48] i=true↔i+1 < t.length∧t.getD i 0=48∧t.getD (i+1) 0=48:=by
 rw [← Z3,List.isPrefixOf_iff_prefix]
 by_cases h:i+1 < t.length
 · rw [List.drop_eq_getElem_cons (by omega:i < t.length),List.drop_eq_getElem_cons h,List.cons_prefix_cons,List.cons_prefix_cons]
   have e:t.getD i 0=t[i]:=by simp [show i < t.length by omega]
   have e2:t.getD (i+1) 0=t[i+1]:=by simp [h]
   rw [e,e2]
   constructor
   · rintro ⟨e,e',_⟩;exact ⟨h,e.symm,e'.symm⟩
   · rintro ⟨_,e,e'⟩;exact ⟨e.symm,e'.symm,List.nil_prefix⟩
 · constructor
   · intro hp
     have:=hp.length_le
     simp at this;omega
   · rintro ⟨h1,_⟩;exact absurd h1 h
theorem b60 (t:Tx) (i:Nat):match b8r t i with | .ok b k=>a6e t i=some (b,k) | .err c _=>c=3∧a6e t i=none:=by
 unfold b8r a6e
 by_cases hi:i < t.length
 · rw [if_pos hi,if_pos hi]
   cases h1:a1t (t.getD i 0) with
   | some b=>simp only []
   | none=>
    simp only []
    by_cases hu:t.getD i 0=117
    · rw [if_pos hu]
      by_cases hw:L4 t [48,48] (i+1)=true
      · rw [if_pos hw]
        obtain ⟨w1,w2,w3⟩:=(a8l _ _).1 hw
        cases ha:a0x t (i+3) with
        | err c z=>
         obtain ⟨e1,e2⟩:=a78 ha
         simp only []
         refine ⟨e1,?_⟩
         by_cases hc:t.getD i 0=117∧i+5≤t.length∧t.getD (i+1) 0=48∧t.getD (i+2) 0=48
         · rw [if_pos hc,e2 (by omega)]
         · rw [if_neg hc]
        | ok a k=>
         obtain ⟨a1,rfl,a3⟩:=a3w ha
         simp only []
         cases hb:a0x t (i+3+1) with
         | err c z=>
          obtain ⟨e1,e2⟩:=a78 hb
          simp only []
          refine ⟨e1,?_⟩
          by_cases hc:t.getD i 0=117∧i+5≤t.length∧t.getD (i+1) 0=48∧t.getD (i+2) 0=48
          · rw [if_pos hc,a3,e2 (by omega)]
          · rw [if_neg hc]
         | ok b k=>
          obtain ⟨b1,rfl,b3⟩:=a3w hb
          simp only []
          rw [if_pos ⟨hu,by omega,w2,w3⟩,a3,b3]
      · rw [if_neg hw]
        refine ⟨rfl,?_⟩
        rw [if_neg]
        rintro ⟨_,c1,c2,c3⟩
        exact hw ((a8l _ _).2 ⟨by omega,c2,c3⟩)
    · rw [if_neg hu]
      exact ⟨rfl,by rw [if_neg fun h=>hu h.1]⟩
 · rw [if_neg hi,if_neg hi];exact ⟨rfl,rfl⟩
def a9s (t:Tx):Nat→Nat→Tx→JZ Tx
 | 0,i,_=>.err 3 i
 | n+1,i,out=>if i < t.length then
  (if t.getD i 0=34 then (if 120 < out.length then .err 8 (i+1) else .ok out (i+1))
   else if t.getD i 0=92 then (match b8r t (i+1) with | .ok b k=>a9s t n k (out++[b]) | .err c z=>.err c z)
   else if 32≤(t.getD i 0).toNat∧(t.getD i 0).toNat≤126 then a9s t n (i+1) (out++[t.getD i 0]) else .err 3 (i+1))
  else .err 3 i
theorem b06 (t:Tx):∀ n i out,(a9s t n i out).jr=b1q t n i out
 | 0,i,out=>rfl
 | n+1,i,out=>by
  unfold a9s b1q
  by_cases hi:i < t.length
  · rw [if_pos hi,if_pos hi]
    by_cases h34:t.getD i 0=34
    · rw [if_pos h34,if_pos h34]
      by_cases h120:120 < out.length
      · rw [if_pos h120,if_pos h120];rfl
      · rw [if_neg h120,if_neg h120];rfl
    · rw [if_neg h34,if_neg h34]
      by_cases h92:t.getD i 0=92
      · rw [if_pos h92,if_pos h92]
        have he:=b60 t (i+1)
        cases hp:b8r t (i+1) with
        | err c z=>rw [hp] at he;simp only [] at he;rw [he.2,he.1];rfl
        | ok b k=>rw [hp] at he;simp only [] at he;rw [he];exact b06 t n k _
      · rw [if_neg h92,if_neg h92]
        by_cases hr:32≤(t.getD i 0).toNat∧(t.getD i 0).toNat≤126
        · rw [if_pos hr,if_pos hr];exact b06 t n _ _
        · rw [if_neg hr,if_neg hr];rfl
  · rw [if_neg hi,if_neg hi];rfl
def W7 (t:Tx) (i:Nat):JZ Tx:=if L4 t [34] i then a9s t (t.length+1) (i+1) [] else .err 3 i
theorem a2m (t:Tx) (i:Nat):(W7 t i).jr=a0i t i:=by
 unfold W7 a0i
 rw [a6d]
 by_cases h:i < t.length∧t.getD i 0=34
 · rw [if_pos h,if_pos (decide_eq_true h)];exact b06 t _ _ _
 · rw [if_neg h,if_neg (by rw [decide_eq_false h];exact Bool.false_ne_true)];rfl
def a9t (t:Tx) (i:Nat):JZ Int:=match R4 ((t.take (a0a t i)).drop i) with
 | none=>.err 3 (a0a t i)
 | some n=>if -999999999≤n∧n≤999999999 then .ok n (a0a t i) else .err 4 (a0a t i)
theorem a5c (t:Tx) (i:Nat):(a9t t i).jr=a3c t i:=by
 unfold a9t a3c
 cases R4 ((t.take (a0a t i)).drop i) with
 | none=>rfl
 | some n=>
  simp only []
  split<;>rfl
def b0b (V:Nat→JZ LJson) (t:Tx) (e:UInt8) (K:Nat→List Tx→List LJson→JZ (List Tx×List LJson)) (k:Nat) (ns:List Tx) (xs:List LJson):JZ (List Tx×List LJson):=match V k with
 | .err c z=>.err c z
 | .ok x k=>if 12 < xs.length+1 then .err 6 k else
  if L4 t [e] (b8 t k) then .ok (ns,xs++[x]) (b8 t k+1)
  else if L4 t [44] (b8 t k) then K (b8 t k+1) ns (xs++[x]) else .err 3 (b8 t k)
def a6r (t:Tx) (i:Nat) (ns:List Tx):JZ Tx:=match W7 t i with
 | .err c z=>.err c z
 | .ok nm k=>if nm∈ns then .err 13 k else if L4 t [58] (b8 t k) then .ok nm (b8 t k+1) else .err 3 (b8 t k)
def a4o (V:Nat→JZ LJson) (t:Tx) (obj:Bool) (e:UInt8):Nat→Nat→List Tx→List LJson→JZ (List Tx×List LJson)
 | 0,i,_,_=>.err 6 i
 | n+1,i,ns,xs=>match obj with
  | false=>b0b V t e (a4o V t obj e n) (b8 t i) ns xs
  | true=>match a6r t (b8 t i) ns with
   | .err c z=>.err c z
   | .ok nm k=>b0b V t e (a4o V t obj e n) k (ns++[nm]) xs
def a6s (V:Nat→JZ LJson) (t:Tx) (obj:Bool) (e:UInt8) (i:Nat):JZ (List Tx×List LJson):=
 if L4 t [e] (b8 t i) then .ok ([],[]) (b8 t i+1) else a4o V t obj e 13 (b8 t i) [] []
def pmk (k:Int):JZ (List Tx×List LJson)→JZ LJson
 | .err c z=>.err c z
 | .ok v i=>.ok (.mk k 0 [] v.1 v.2) i
theorem a33 {α:Type} (t:Tx) (e:UInt8) (i:Nat) (a b:α):(if L4 t [e] i=true then a else b)=if i < t.length∧t.getD i 0=e then a else b:=by
 rw [a6d]
 by_cases h:i < t.length∧t.getD i 0=e
 · rw [if_pos h,if_pos (decide_eq_true h)]
 · rw [if_neg h,if_neg (by rw [decide_eq_false h];exact Bool.false_ne_true)]
theorem b2p {V:Nat→JZ LJson} {W:Nat→JR LJson} (hV:∀ i,(V i).jr=W i) {t:Tx} {e:UInt8} {K:Nat→List Tx→List LJson→JZ (List Tx×List LJson)} {K':Nat→List Tx→List LJson→JR (List Tx×List LJson)} (hK:∀ i ns xs,(K i ns xs).jr=K' i ns xs) (k:Nat) (ns:List Tx) (xs:List LJson) :
 (b0b V t e K k ns xs).jr=a6w W t e K' k ns xs:=by
 unfold b0b a6w
 rw [← hV]
 cases V k with
 | err c z=>rfl
 | ok x k=>
  have hr:∀ (p:Prop) [Decidable p] (a b:JZ (List Tx×List LJson)),(if p then a else b).jr=if p then a.jr else b.jr:=fun p _ a b=>by split<;>rfl
  simp only [a33,hr,hK]
  rfl
theorem a52 {V:Nat→JZ LJson} {W:Nat→JR LJson} (hV:∀ i,(V i).jr=W i) (t:Tx) (obj:Bool) (e:UInt8):∀ n i ns xs,(a4o V t obj e n i ns xs).jr=a12 W t obj e n i ns xs
 | 0,i,ns,xs=>rfl
 | n+1,i,ns,xs=>by
  unfold a4o a12
  cases obj with
  | false=>exact b2p hV (a52 hV t false e n) _ _ _
  | true=>
   simp only []
   unfold a6r
   rw [← a2m]
   cases W7 t (b8 t i) with
   | err c z=>rfl
   | ok nm k=>
    have hr:∀ (p:Prop) [Decidable p] (a b:JZ Tx),(if p then a else b).jr=if p then a.jr else b.jr:=fun p _ a b=>by split<;>rfl
    simp only [a33]
    show JZ.jr _=if nm∈ns then _ else _
    by_cases hm:nm∈ns
    · rw [if_pos hm,if_pos hm];rfl
    · rw [if_neg hm,if_neg hm]
      by_cases h5:b8 t k < t.length∧t.getD (b8 t k) 0=58
      · rw [if_pos h5,if_pos h5]
        exact b2p hV (a52 hV t true e n) _ _ _
      · rw [if_neg h5,if_neg h5];rfl
theorem b2o {V:Nat→JZ LJson} {W:Nat→JR LJson} (hV:∀ i,(V i).jr=W i) (t:Tx) (obj:Bool) (e:UInt8) (i:Nat):(a6s V t obj e i).jr=a4i W t obj e i:=by
 unfold a6s a4i
 rw [a33]
 split
 · rfl
 · exact a52 hV t obj e _ _ _ _
theorem b4b (k:Int) (r:JZ (List Tx×List LJson)):(pmk k r).jr=jmk k r.jr:=by cases r<;>rfl
def a4n (t:Tx):Nat→Nat→JZ LJson
 | d,i=>if L4 t jnull (b8 t i) then .ok (.mk 1 0 [] [] []) (b8 t i+4)
  else if L4 t jtrue (b8 t i) then .ok (.mk 2 1 [] [] []) (b8 t i+4)
  else if L4 t jfalse (b8 t i) then .ok (.mk 2 0 [] [] []) (b8 t i+5)
  else if L4 t [91] (b8 t i) then (match d with | 0=>.err 12 (b8 t i+1) | d+1=>pmk 5 (a6s (a4n t d) t false 93 (b8 t i+1)))
  else if L4 t [123] (b8 t i) then (match d with | 0=>.err 12 (b8 t i+1) | d+1=>pmk 6 (a6s (a4n t d) t true 125 (b8 t i+1)))
  else if L4 t [34] (b8 t i) then (match W7 t (b8 t i) with | .err c z=>.err c z | .ok v k=>.ok (.mk 4 0 v [] []) k)
  else (match a9t t (b8 t i) with | .err c z=>.err c z | .ok n k=>.ok (.mk 3 n [] [] []) k)
theorem b6b {t:Tx} {i:Nat} (h:i < t.length→t.getD i 0≠45∧P7 (t.getD i 0)=false):a3c t i=.err 3:=by
 have hs:a0p t i=i:=by
  unfold a0p
  rw [if_neg]
  rintro ⟨h1,h2⟩
  exact (h h1).1 h2
 have he:a0a t i=i:=by
  unfold a0a
  rw [hs]
  by_cases hi:i < t.length
  · have h2:=(h hi).2
    have e:t.getD i 0=t[i]:=by simp [hi]
    rw [e] at h2
    exact a8r hi h2
  · exact a6f (by omega)
 unfold a3c
 rw [he,show (t.take i).drop i=[] from List.drop_eq_nil_of_le (by simp;omega)]
 rfl
theorem b20 {t:Tx} {c x:UInt8} {w:Tx} {i:Nat} (hx:t.getD i 0=x) (h:x≠c):L4 t (c :: w) i=false:=by
 cases hj:L4 t (c :: w) i with
 | false=>rfl
 | true=>exact absurd (hx ▸ (Y0 hj).2) h
theorem b5y (t:Tx):∀ d i,(a4n t d i).jr=a4q t d i:=by
 have step:∀ d,(∀ o e,match d with | 0=>True | d+1=>∀ i,(a6s (a4n t d) t o e i).jr=a4i (a4q t d) t o e i)→∀ i,(a4n t d i).jr=a4q t d i:=by
  intro d hd i
  unfold a4n a4q
  obtain ⟨k,hk⟩:∃ k,b8 t i=k:=⟨_,rfl⟩
  rw [hk]
  have hnum:∀ (r:JZ Int),(match r with | .err c z=>(.err c z:JZ LJson) | .ok n k=>.ok (.mk 3 n [] [] []) k).jr=match r.jr with | .err c=>.err c | .ok n k=>.ok (.mk 3 n [] [] []) k:=fun r=>by cases r<;>rfl
  by_cases hi:k < t.length
  · rw [if_pos hi]
    obtain ⟨x,hx⟩:∃ x,t.getD k 0=x:=⟨_,rfl⟩
    have o:∀ (c:UInt8) (w:Tx),x≠c→(L4 t (c :: w) k=true)=False:=fun c w h=>by rw [b20 hx h];simp
    have w1:∀ c:UInt8,x=c→(L4 t [c] k=true)=True:=fun c h=>by rw [a6d,decide_eq_true ⟨hi,hx.trans h⟩];simp
    have no:(x≠45∧P7 x=false)→(match a3c t k with | .err c=>(.err c:JR LJson) | .ok n k=>.ok (.mk 3 n [] [] []) k)=.err 3:=fun h=>by rw [b6b fun _=>by rw [hx];exact h]
    rw [hx]
    by_cases c1:x=110
    · subst c1
      simp only [jnull,jtrue,jfalse,o 116 [114,117,101] (by decide),o 102 [97,108,115,101] (by decide),o 91 [] (by decide),o 123 [] (by decide),o 34 [] (by decide),if_false]
      by_cases hj:L4 t [110,117,108,108] k=true
      · simp only [hj,if_true];rfl
      · simp only [hj,Bool.false_eq_true,if_false];rw [hnum,a5c,no (by decide)]
    by_cases c2:x=116
    · subst c2
      simp only [jnull,jtrue,jfalse,o 110 [117,108,108] (by decide),o 102 [97,108,115,101] (by decide),o 91 [] (by decide),o 123 [] (by decide),o 34 [] (by decide),if_false]
      by_cases hj:L4 t [116,114,117,101] k=true
      · simp only [hj,if_true];rfl
      · simp only [hj,Bool.false_eq_true,if_false];rw [hnum,a5c,no (by decide)]
    by_cases c3:x=102
    · subst c3
      simp only [jnull,jtrue,jfalse,o 110 [117,108,108] (by decide),o 116 [114,117,101] (by decide),o 91 [] (by decide),o 123 [] (by decide),o 34 [] (by decide),if_false]
      by_cases hj:L4 t [102,97,108,115,101] k=true
      · simp only [hj,if_true];rfl
      · simp only [hj,Bool.false_eq_true,if_false];rw [hnum,a5c,no (by decide)]
    simp only [jnull,jtrue,jfalse,o 110 [117,108,108] c1,o 116 [114,117,101] c2,o 102 [97,108,115,101] c3,if_false]
    by_cases c4:x=34
    · subst c4
      simp only [o 91 [] (by decide),o 123 [] (by decide),w1 34 rfl,if_false,if_true]
      rw [← a2m]
      cases W7 t k<;>rfl
    by_cases c5:x=91
    · subst c5
      simp only [w1 91 rfl,if_true]
      cases d with
      | zero=>rfl
      | succ d=>
       simp only []
       rw [b4b,hd]
    by_cases c6:x=123
    · subst c6
      simp only [o 91 [] (by decide),w1 123 rfl,if_false,if_true]
      cases d with
      | zero=>rfl
      | succ d=>
       simp only []
       rw [b4b,hd]
    simp only [o 91 [] c5,o 123 [] c6,o 34 [] c4,if_false]
    rw [hnum,a5c]
    all_goals rfl
  · rw [if_neg hi]
    have o:∀ (c:UInt8) (w:Tx),(L4 t (c :: w) k=true)=False:=fun c w=>by
     cases hj:L4 t (c :: w) k with
     | false=>simp
     | true=>exact absurd (Y0 hj).1 hi
    simp only [jnull,jtrue,jfalse,o,if_false]
    rw [hnum,a5c,b6b fun h=>absurd h hi]
 intro d
 induction d with
 | zero=>exact step 0 (fun o e=>trivial)
 | succ d ih=>exact step (d+1) (fun o e i=>b2o ih t o e i)
end Go.KP
end
section
namespace Go.KP
mutual
def jtx:LJson→Tx
 | .mk k n t ns is=>if k=1 then jnull else if k=2 then (if n=1 then jtrue else jfalse) else if k=3 then a1d n else if k=4 then Z1 t else if k=5 then 91 :: (X1 [44] (Q6 5 ns (b9c is))++[93]) else 123 :: (X1 [44] (Q6 6 ns (b9c is))++[125])
def b9c:List LJson→List Tx
 | []=>[]
 | x :: xs=>jtx x :: b9c xs
end
theorem b9b (l:List LJson):b9c l=l.map jtx:=by
 induction l with
 | nil=>rfl
 | cons x xs ih=>simp [b9c,ih]
theorem V2 (k n:Int) (t:Tx) (ns:List Tx) (is:List LJson):jtx (.mk k n t ns is)=if k=1 then jnull else if k=2 then (if n=1 then jtrue else jfalse) else if k=3 then a1d n else if k=4 then Z1 t else if k=5 then 91 :: (X1 [44] (is.map jtx)++[93]) else 123 :: (X1 [44] (Q6 6 ns (is.map jtx))++[125]):=by
 rw [jtx,b9b]
 rw [a0e (by decide) ns (is.map jtx)]
theorem b0j {B:Nat} {k:Int} {ns ts:List Tx} (hk:k=5∨(k=6∧ns.length=ts.length∧∀ s∈ns,s.length≤120)) (ih:∀ x∈ts,x.length≤B):∀ x∈Q6 k ns ts,x.length+[(44:UInt8)].length≤B+730:=by
 intro x hx
 obtain ⟨i,hi',rfl⟩:=List.mem_iff_getElem.1 hx
 have hi:i < ts.length:=by rw [Y2] at hi';exact hi'
 have hj:=ih _ (List.getElem_mem hi)
 rcases hk with rfl | ⟨rfl,hn,hns⟩
 · have:Q6 5 ns ts=ts:=a0e (by decide) _ _
   simp only [this,List.length_cons,List.length_nil];omega
 · rw [a4s ns _ hn i (by omega) hi]
   have hq:=a2q (ns[i]'(by omega))
   have hq2:=hns _ (List.getElem_mem (show i < ns.length by omega))
   simp only [List.length_append,List.length_cons,List.length_nil];omega
theorem b68 {n:Int} (h:-999999999≤n∧n≤999999999):(a1d n).length≤10:=by
 unfold a1d
 split
 · have:=b3i (-n).toNat (by omega)
   simp;omega
 · have:=b3i n.toNat (by omega)
   omega
theorem jpow (d:Nat):2 ^ (10+6*(d+1))=64*2 ^ (10+6*d):=by
 rw [show 10+6*(d+1)=(10+6*d)+6 by omega,Nat.pow_add];omega
theorem b6a:∀ (d:Nat) (j:LJson),P0 d j→(jtx j).length≤2 ^ (10+6*d)
 | d,.mk k n t ns is,h=>by
  have e0:2 ^ 10≤2 ^ (10+6*d):=Nat.pow_le_pow_right (by omega) (by omega)
  have e4:(2:Nat) ^ 10=1024:=by decide
  unfold P0 at h
  rcases h with ⟨rfl,_⟩ | ⟨rfl,_⟩ | ⟨rfl,h1,_⟩ | ⟨rfl,_,h1,_⟩ | ⟨_,_,hl,hk,hs⟩
  · rw [V2];simp [jnull];omega
  · rw [V2];simp;split<;>simp [jtrue,jfalse]<;>omega
  · have:=b68 h1
    rw [V2];simp;omega
  · have:=a2q t
    rw [V2];simp;omega
  · cases d with
    | zero=>exact hs.elim
    | succ d=>
     simp only [] at hs
     have e1:2 ^ 10≤2 ^ (10+6*d):=Nat.pow_le_pow_right (by omega) (by omega)
     have ih:∀ x∈is.map jtx,x.length≤2 ^ (10+6*d):=fun x hx=>by
      obtain ⟨y,hy,rfl⟩:=List.mem_map.1 hx
      exact b6a d y (hs y hy)
     have hml:(is.map jtx).length=is.length:=List.length_map ..
     have hk':k=5∨(k=6∧ns.length=(is.map jtx).length∧∀ s∈ns,s.length≤120):=by
      rcases hk with ⟨h,_⟩ | ⟨h,h2,_,h4⟩
      · exact .inl h
      · exact .inr ⟨h,by rw [hml];exact h2,h4⟩
     have hp:=b0j hk' ih
     have hj:=b0f (sep:=[44]) (xs:=Q6 k ns (is.map jtx)) hp
     rw [Y2,hml] at hj
     have h16:is.length*(2 ^ (10+6*d)+730)≤12*(2 ^ (10+6*d)+730):=Nat.mul_le_mul_right _ hl
     have e3:=jpow d
     rcases hk with ⟨rfl,_⟩ | ⟨rfl,_⟩
     · rw [a0e (by decide)] at hj
       rw [V2];simp at hj ⊢;omega
     · rw [V2];simp at hj ⊢;omega
theorem a2d {d:Nat} {k:Int} {ns:List Tx} {is:List LJson} (hd:d≤3) (hk:k=5∨(k=6∧ns.length=is.length∧∀ s∈ns,s.length≤120)) (hl:is.length≤12) (hs:∀ x∈is,P0 d x) (i:Nat):(X1 [44] ((Q6 k ns (is.map jtx)).take i)).length≤3221260272∧∀ x∈is,(jtx x).length≤268435456:=by
 have h3:2 ^ (10+6*d)≤2 ^ 28:=Nat.pow_le_pow_right (by omega) (by omega)
 have e28:(2:Nat) ^ 28=268435456:=by decide
 have ih:∀ x∈is.map jtx,x.length≤268435456:=fun x hx=>by
  obtain ⟨y,hy,rfl⟩:=List.mem_map.1 hx
  have:=b6a d y (hs y hy)
  omega
 have hk':k=5∨(k=6∧ns.length=(is.map jtx).length∧∀ s∈ns,s.length≤120):=by
  rcases hk with h | ⟨h,h2,h4⟩
  · exact .inl h
  · exact .inr ⟨h,by rw [List.length_map];exact h2,h4⟩
 have hp:=b0j hk' ih
 have hj:=b0f (B:=268435456+730) (sep:=[44]) (xs:=(Q6 k ns (is.map jtx)).take i) fun x hx=>hp x (List.mem_of_mem_take hx)
 have h1:((Q6 k ns (is.map jtx)).take i).length≤12:=by rw [List.length_take,Y2,List.length_map];omega
 have h2:((Q6 k ns (is.map jtx)).take i).length*(268435456+730)≤12*(268435456+730):=Nat.mul_le_mul_right _ h1
 exact ⟨by omega,fun x hx=>ih _ (List.mem_map_of_mem hx)⟩
end Go.KP
end
section
namespace Go.KP
end Go.KP
end
section
namespace Go.KP
def Q0 (k:Nat):LParcel:=⟨(k:Nat),(k+1:Nat),lmk (k+2)⟩
end Go.KP
end
