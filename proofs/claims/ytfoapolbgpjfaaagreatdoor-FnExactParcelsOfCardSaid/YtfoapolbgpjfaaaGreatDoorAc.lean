/- Ac: merged out of KPa, KPb, KPc, KPd, KPe, KPf, KPg, KPh, KPi, KPj, KPk, KPl, KPm, KPn, KPo, KQa, KRa, KLa, KRb, KRc, KPp, KRd, KPu, KPx, KPy, KPz, KPaa, KPab, KPac. -/
import Derived.Test.YtfoapolbgpjfaaaGreatDoorPWv
set_option linter.unusedSectionVars false
set_option linter.unusedSimpArgs false
set_option linter.unusedVariables false
section
namespace Go.KP
abbrev Tx:=List UInt8
def Q8 (c:UInt8):Bool:=decide (48≤c.toNat∧c.toNat≤57)
def Y5 (t:Tx) (c:UInt8):Nat:=t.findIdx (· == c)
def Z3 (n:Nat):Tx:=if h:n < 10 then [UInt8.ofNat (48+n)] else Z3 (n / 10)++[UInt8.ofNat (48+n % 10)]
termination_by n
decreasing_by omega
theorem b4u (t:Tx) (c:UInt8) (i:Nat) (hi:i≤t.length) (h:∀ k,k < i→t.getD k 0≠c) (h':i=t.length∨t.getD i 0=c):Y5 t c=i:=by
 unfold Y5
 by_cases hl:i < t.length
 · rw [List.findIdx_eq hl]
   refine ⟨?_,fun j hj=>?_⟩
   · rcases h' with h' | h'
     · omega
     · simpa [List.getD_eq_getElem?_getD,List.getElem?_eq_getElem hl] using h'
   · have:=h j hj
     have hjl:j < t.length:=by omega
     simpa [List.getD_eq_getElem?_getD,List.getElem?_eq_getElem hjl] using this
 · have e:i=t.length:=by omega
   subst e
   rw [List.findIdx_eq_length]
   intro x hx
   obtain ⟨j,hj,rfl⟩:=List.getElem_of_mem hx
   have:=h j hj
   simpa [List.getD_eq_getElem?_getD,List.getElem?_eq_getElem hj] using this
theorem c12 (t:Tx) (c:UInt8):Y5 t c≤t.length:=List.findIdx_le_length
theorem c11 {t:Tx} {c:UInt8}:Y5 t c < t.length↔c∈t:=by
 unfold Y5
 rw [List.findIdx_lt_length]
 constructor
 · rintro ⟨x,hx,h⟩;have:x=c:=by simpa using h
   exact this ▸ hx
 · intro h;exact ⟨c,h,by simp⟩
theorem a2c {α:Type} (t:List α) (i:Nat) (d:α) (h:i < t.length):t.getD i d=t[i]:=by simp [List.getD_eq_getElem?_getD,List.getElem?_eq_getElem h]
theorem b9d {α:Type} (t:List α) (i:Nat) (d:α) (h:i < t.length):t.take (i+1)=t.take i++[t.getD i d]:=by
 rw [List.take_add_one,List.getElem?_eq_getElem h,a2c t i d h];rfl
theorem b16 {α:Type} (t:List α) (i:Nat) (d:α) (h:i < t.length):t.drop i=t.getD i d :: t.drop (i+1):=by
 rw [List.drop_eq_getElem_cons h,a2c t i d h]
theorem Y1 {n:Nat} (h:n < 10):Z3 n=[UInt8.ofNat (48+n)]:=by rw [Z3];simp [h]
theorem a1l {n:Nat} (h:¬ n < 10):Z3 n=Z3 (n / 10)++[UInt8.ofNat (48+n % 10)]:=by rw [Z3];simp [h]
theorem b4v (n:Nat):(Z3 n).length≤n+1:=by
 induction n using Nat.strongRecOn with
 | ind n ih=>
  by_cases h:n < 10
  · rw [Y1 h];simp
  · rw [a1l h]
    have:=ih (n / 10) (by omega)
    simp;omega
theorem a9r:∀ (k n:Nat),n < 10 ^ (k+1)→(Z3 n).length≤k+1
 | 0,n,h=>by rw [Y1 (by simpa using h)];simp
 | k+1,n,h=>by
  by_cases hn:n < 10
  · rw [Y1 hn];simp
  · rw [a1l hn]
    have:=a9r k (n / 10) (by rw [Nat.div_lt_iff_lt_mul (by omega)];rw [Nat.pow_succ] at h;exact h)
    simp;omega
def a1w (n:Int):Tx:=if n < 0 then 45 :: Z3 (-n).toNat else Z3 n.toNat
def T5 (t:Tx):Nat:=t.foldl (fun n c=>n*10+(c.toNat - 48)) 0
def a0r (neg:Bool) (t:Tx):Bool:=decide (t.length=0∨18 < t.length) || (decide ((t.getD 0 0).toNat=48) && (decide (1 < t.length) || neg))
def Y3 (neg:Bool) (t:Tx):Option Int:=if a0r neg t then none else if t.all Q8 then some (if neg then - (T5 t:Int) else (T5 t:Int)) else none
def S6 (t:Tx):Option Int:=match t with
 | []=>none
 | c :: r=>if c=45 then Y3 true r else Y3 false (c :: r)
theorem a4t (t:Tx) (c:UInt8):T5 (t++[c])=T5 t*10+(c.toNat - 48):=by simp [T5]
theorem b21 (t:Tx) (h:t.all Q8=true):T5 t < 10 ^ t.length:=by
 have key:∀ (k:Nat) (t:Tx),t.length=k→t.all Q8=true→T5 t < 10 ^ t.length:=by
  intro k
  induction k with
  | zero=>intro t ht _;have:t=[]:=List.eq_nil_of_length_eq_zero ht;subst this;decide
  | succ k ih=>
   intro t ht ha
   obtain ⟨r,c,rfl⟩:∃ r c,t=r++[c]:=⟨t.dropLast,t.getLast (by intro e;subst e;simp at ht),(List.dropLast_concat_getLast _).symm⟩
   simp only [List.all_append,Bool.and_eq_true] at ha
   have h1:=ih r (by simpa using ht) ha.1
   have h2:Q8 c=true:=by simpa using ha.2
   simp [Q8] at h2
   rw [a4t]
   simp only [List.length_append,List.length_singleton,Nat.pow_succ]
   omega
 exact key t.length t rfl h
theorem b1d {α:Type} (t:List α) (p:α→Bool) (i:Nat) (h:i < t.length):(t.take (i+1)).all p=((t.take i).all p && p t[i]):=by
 rw [List.take_add_one,List.getElem?_eq_getElem h,List.all_append];simp
structure LUrl where
 scheme:Tx
 user:Tx
 host:Tx
 port:Int
 path:Tx
 query:Tx
 frag:Tx
 hasQ:Bool
 hasF:Bool
def LUrl.Small (u:LUrl):Prop:=u.scheme.length < 1099511627776∧u.user.length < 1099511627776∧u.host.length < 1099511627776∧u.path.length < 1099511627776∧u.query.length < 1099511627776∧u.frag.length < 1099511627776∧u.port≤9223372036854775807
end Go.KP
end
section
namespace Go.KP
def LUrl.zero:LUrl:=⟨[],[],[],0,[],[],[],false,false⟩
structure LTarget where
 url:Tx
 prio:Int
 weight:Int
 deriving DecidableEq
structure LPeer where
 target:LTarget
 fails:Int
 retry:Int
 gone:Bool
 deriving DecidableEq
end Go.KP
end
section
namespace Go.KP
end Go.KP
end
section
namespace Go.KP
theorem a9s:∀ (n:Nat),(Z3 n).all Q8=true:=by
 intro n
 induction n using Nat.strongRecOn with
 | ind n ih=>
  by_cases h:n < 10
  · rw [Y1 h]
    simp [Q8]
    omega
  · rw [a1l h,List.all_append,ih (n / 10) (by omega)]
    simp [Q8]
    omega
end Go.KP
end
section
namespace Go.KP
theorem b2g (k:Nat) (h:k < 10):(UInt8.ofNat (48+k)).toNat=48+k:=by
 rw [UInt8.toNat_ofNat'];omega
theorem b1p (n:Nat):T5 (Z3 n)=n:=by
 induction n using Nat.strongRecOn with
 | ind n ih=>
  by_cases h:n < 10
  · rw [Y1 h]
    have:=b2g n h
    simp only [T5,List.foldl_cons,List.foldl_nil,this];omega
  · rw [a1l h,a4t,ih (n / 10) (by omega),b2g _ (by omega)]
    omega
theorem b26 (n:Nat):Z3 n≠[]:=by
 by_cases h:n < 10
 · rw [Y1 h];simp
 · rw [a1l h];simp
theorem b9u (n:Nat) (h0:n≠0):((Z3 n).getD 0 0).toNat≠48:=by
 induction n using Nat.strongRecOn with
 | ind n ih=>
  by_cases h:n < 10
  · rw [Y1 h]
    have:=b2g n h
    simp only [List.getD_cons_zero,this];omega
  · rw [a1l h]
    have h1:=ih (n / 10) (by omega) (by omega)
    cases hl:Z3 (n / 10) with
    | nil=>exact absurd hl (b26 _)
    | cons c r=>rw [hl] at h1;simpa using h1
theorem a73 {c:UInt8} (h:Q8 c=true):UInt8.ofNat (48+(c.toNat - 48))=c:=by
 simp only [Q8,decide_eq_true_eq] at h
 apply UInt8.toNat_inj.1
 rw [b2g _ (by omega)];omega
theorem b9t:∀ (k:Nat) (t:Tx),t.length=k→t≠[]→t.all Q8=true→((t.getD 0 0).toNat=48→t.length=1)→Z3 (T5 t)=t:=by
 intro k
 induction k with
 | zero=>intro t ht h;exact absurd (List.eq_nil_of_length_eq_zero ht) h
 | succ k ih=>
  intro t ht hne ha hz
  obtain ⟨r,c,rfl⟩:∃ r c,t=r++[c]:=⟨t.dropLast,t.getLast hne,(List.dropLast_concat_getLast _).symm⟩
  simp only [List.all_append,Bool.and_eq_true] at ha
  have hc:Q8 c=true:=by simpa using ha.2
  have hc':=hc
  simp only [Q8,decide_eq_true_eq] at hc'
  rw [a4t]
  cases r with
  | nil=>
   rw [show T5 []*10+(c.toNat - 48)=c.toNat - 48 by simp [T5]]
   rw [Y1 (by omega),a73 hc];rfl
  | cons d r=>
   have hd:d.toNat≠48:=fun e=>by
    have:=hz (by simpa using e)
    simp at this
   have hi:=ih (d :: r) (by simpa using ht) (by simp) ha.1 (fun e=>absurd (by simpa using e) hd)
   have hpos:T5 (d :: r)≠0:=fun e=>by
    rw [e,Y1 (by omega)] at hi
    have h2:UInt8.ofNat 48=d:=by simpa using (List.cons.inj hi).1
    exact hd (by rw [← h2];rfl)
   rw [a1l (by omega)]
   have e1:(T5 (d :: r)*10+(c.toNat - 48)) / 10=T5 (d :: r):=by omega
   have e2:(T5 (d :: r)*10+(c.toNat - 48)) % 10=c.toNat - 48:=by omega
   rw [e1,e2,hi,a73 hc]
def V2 (t:Tx):Nat:=match t with
 | []=>0
 | c :: r=>if c=45 then r.length else (c :: r).length
theorem a7y (neg:Bool) (n:Nat) (h18:(Z3 n).length≤18) (hn:neg=true→n≠0):a0r neg (Z3 n)=false:=by
 unfold a0r
 have h1:(Z3 n).length≠0:=fun e=>b26 n (List.eq_nil_of_length_eq_zero e)
 by_cases h0:n=0
 · subst h0
   cases neg with
   | true=>exact absurd rfl (hn rfl)
   | false=>rw [Y1 (by omega)];simp
 · have h2:=b9u n h0
   have e1:decide ((Z3 n).length=0∨18 < (Z3 n).length)=false:=by simp only [decide_eq_false_iff_not];omega
   have e2:decide (((Z3 n).getD 0 0).toNat=48)=false:=by simp only [decide_eq_false_iff_not];exact h2
   rw [e1,e2];rfl
theorem b25 (n:Int) (h:V2 (a1w n)≤18):S6 (a1w n)=some n:=by
 unfold a1w at h ⊢
 by_cases h0:n < 0
 · rw [if_pos h0] at h ⊢
   have h':(Z3 (-n).toNat).length≤18:=by simpa [V2] using h
   simp only [S6,if_true,Y3]
   rw [a7y true _ h' (fun _=>by omega),if_neg (by simp),if_pos (a9s _),b1p]
   simp;omega
 · rw [if_neg h0] at h ⊢
   cases hl:Z3 n.toNat with
   | nil=>exact absurd hl (b26 _)
   | cons c r=>
    have hd:=a9s n.toNat
    rw [hl] at hd h
    have hc:c≠45:=fun e=>by subst e;simp [Q8] at hd
    have h':(Z3 n.toNat).length≤18:=by rw [hl];simpa [V2,hc] using h
    simp only [S6,hc,if_false]
    rw [← hl]
    simp only [Y3]
    rw [a7y false _ h' (fun e=>by cases e),if_neg (by simp),if_pos (a9s _),b1p]
    simp;omega
theorem b24 {t:Tx} {n:Int} (h:S6 t=some n):a1w n=t∧V2 t≤18 ∧
 ∃ u:Tx,u≠[]∧u.all Q8=true∧u.length≤18∧((t=45 :: u∧n=-(T5 u:Int))∨(t=u∧n=T5 u)):=by
 have key:∀ (neg:Bool) (u:Tx),Y3 neg u=some n→u≠[]∧u.length≤18∧u.all Q8=true∧Z3 (T5 u)=u∧(neg=true→T5 u≠0)∧n=(if neg then - (T5 u:Int) else (T5 u:Int)):=by
  intro neg u hu
  unfold Y3 at hu
  split at hu
  · cases hu
  · rename_i hb
    split at hu
    · rename_i ha
      have hn:=(Option.some.inj hu).symm
      have hb':a0r neg u=false:=by simpa using hb
      unfold a0r at hb'
      rw [Bool.or_eq_false_iff] at hb'
      obtain ⟨q1,q2⟩:=hb'
      rw [decide_eq_false_iff_not] at q1
      have hne:u≠[]:=fun e=>q1 (by rw [e];simp)
      have hz:(u.getD 0 0).toNat=48→u.length=1∧neg=false:=fun e=>by
       rw [Bool.and_eq_false_iff] at q2
       rcases q2 with q2 | q2
       · simp only [decide_eq_false_iff_not] at q2;exact absurd e q2
       · rw [Bool.or_eq_false_iff,decide_eq_false_iff_not] at q2
         have:u.length≠0:=fun e=>hne (List.eq_nil_of_length_eq_zero e)
         exact ⟨by omega,q2.2⟩
      have hl:=b9t u.length u rfl hne ha (fun e=>(hz e).1)
      refine ⟨hne,by omega,ha,hl,fun hneg h0=>?_,hn⟩
      rw [h0,Y1 (by omega)] at hl
      have:=(hz (by rw [← hl];rfl)).2
      rw [hneg] at this;cases this
    · cases hu
 unfold S6 at h
 split at h
 · cases h
 · rename_i c r
   split at h
   · rename_i hc
     subst hc
     obtain ⟨h1,h2,h3,h4,h5,h6⟩:=key true r h
     simp only [if_true] at h6
     have h5':=h5 rfl
     refine ⟨?_,by simpa [V2] using h2,r,h1,h3,h2,.inl ⟨rfl,h6⟩⟩
     unfold a1w
     rw [if_pos (by omega),h6]
     rw [show (- -(T5 r:Int)).toNat=T5 r by omega,h4]
   · rename_i hc
     obtain ⟨h1,h2,h3,h4,h5,h6⟩:=key false (c :: r) h
     have h6:n=(T5 (c :: r):Int):=h6
     refine ⟨?_,by simpa [V2,hc] using h2,c :: r,h1,h3,h2,.inr ⟨rfl,h6⟩⟩
     unfold a1w
     rw [if_neg (by omega),h6]
     rw [show ((T5 (c :: r):Int)).toNat=T5 (c :: r) by omega,h4]
end Go.KP
end
section
namespace Go.KP
def LTarget.Small (x:LTarget):Prop:=x.url.length < 1099511627776
end Go.KP
end
section
namespace Go.KP
end Go.KP
end
section
namespace Go.KP
def c1y (now:Int) (x:LPeer):Bool:=!x.gone && decide (x.retry≤now)
def chMatch (now b:Int) (x:LPeer):Bool:=c1y now x && decide (x.target.prio=b)
def chSum (now b:Int):List LPeer→Int
 | []=>0
 | x :: l=>(if chMatch now b x then x.target.weight else 0)+chSum now b l
structure ChInv (now:Int) (l:List LPeer) (a:Int×Int):Prop where
 lo:0≤a.2
 hi:a.2≤9*l.length
 sum:a.2=if a.2=0 then 0 else chSum now a.1 l
 low:∀ x∈l,c1y now x=true→a.1≤x.target.prio∧0 < a.2
 nine:a.2≠0→1≤a.1∧a.1≤9
end Go.KP
end
section
namespace Go.KP
def b01 (k:Nat) (out:Tx):Tx:=if h:k=0 then out else b01 (k / 10) (UInt8.ofNat (48+k % 10) :: out)
termination_by k
decreasing_by omega
theorem b9s (out:Tx):b01 0 out=out:=by rw [b01];simp
theorem c10 {k:Nat} (h:k≠0) (out:Tx):b01 k out=b01 (k / 10) (UInt8.ofNat (48+k % 10) :: out):=by
 conv=>lhs;rw [b01]
 simp [h]
def lmk (k:Nat):Tx:=if k=0 then [109,48] else 109 :: b01 k []
end Go.KP
end
section
namespace Go.KP
end Go.KP
end
section
namespace Go.KP
def bdS {α:Type} (B:Nat) (p:α→Prop) (l:List α):Prop:=l.length≤B∧∀ x∈l,p x
def cut (left:Int) (n:Nat):Int:=if left - n < 0 then -1 else left - n
theorem a3e {left:Int} {n:Nat} (h:left - n < 0):cut left n=-1:=if_pos h
theorem b3k {left:Int} {n:Nat} (h:¬ left - n < 0):cut left n=left - n:=if_neg h
theorem c0g {left:Int} {n:Nat} (h:¬ cut left n < 0) (h0:0≤left):(n:Int)≤left∧cut left n=left - n:=by
 unfold cut at *
 split at h<;>rename_i h1
 · omega
 · rw [if_neg h1];omega
structure LGroup where
 name:Tx
 age:Int
 targets:List LTarget
 deriving DecidableEq
structure LRule where
 name:Tx
 words:List Tx
 deriving DecidableEq
structure LPolicy where
 reportTo:Tx
 uris:List Tx
 rules:List LRule
 deriving DecidableEq
structure LViolation where
 document:Tx
 referrer:Tx
 blocked:Tx
 source:Tx
 directive:Tx
 sample:Tx
 line:Int
 column:Int
 redirected:Bool
 deriving DecidableEq
structure LReport where
 id:Int
 born:Int
 tries:Int
 body:Tx
 deriving DecidableEq
structure LQueue where
 items:List LReport
 recent:List Tx
 deriving DecidableEq
structure LChannel where
 group:LGroup
 peers:List LPeer
 queue:LQueue
 deriving DecidableEq
structure LEntry where
 kind:Int
 id:Int
 at_:Int
 deriving DecidableEq
structure LWire where
 at_:Int
 status:Int
 group:Tx
 url:Tx
 ids:List Int
 body:Tx
 lost:Bool
 deriving DecidableEq
def a8r (x:LWire):Nat:=x.group.length+x.url.length+x.ids.length+x.body.length
def a0k (B:Nat) (x:LWire):Prop:=x.group.length≤B∧x.url.length≤B∧x.ids.length≤B∧x.body.length≤B
theorem c0u {B:Nat} {x:LWire} (h:a8r x≤B):a0k B x:=by
 unfold a8r at h
 unfold a0k
 exact ⟨by omega,by omega,by omega,by omega⟩
structure LPipe where
 channels:List LChannel
 policy:LPolicy
 now:Int
 next:Int
 log:List LEntry
 wires:List LWire
 deriving DecidableEq
structure LEvent where
 kind:Int
 draw:Int
 status:Int
 ticks:Int
 text:Tx
 name:Tx
 violation:LViolation
 lost:Bool
 deriving DecidableEq
structure LParcel where
 id:Int
 age:Int
 body:Tx
 deriving DecidableEq
def a6y (B:Nat) (x:LParcel):Prop:=x.body.length≤B
structure LBox where
 ids:List Int
 times:List Int
 bodies:List Tx
 deriving DecidableEq
end Go.KP
end
section
namespace Go.KP
def a3o {α:Type} (l:List α) (p:α→Bool):Int:=match l.findIdx? p with
 | some i=>i
 | none=>-1
theorem b8n {α:Type} (l:List α) (p:α→Bool):decide (0≤a3o l p)=l.any p:=by
 unfold a3o
 cases h:l.findIdx? p with
 | none=>
  rw [List.findIdx?_eq_none_iff] at h
  rw [Bool.eq_iff_iff]
  simp only [decide_eq_true_eq,List.any_eq_true]
  constructor
  · intro h;omega
  · rintro ⟨x,hx,hp⟩;rw [h x hx] at hp;cases hp
 | some i=>
  rw [List.findIdx?_eq_some_iff_getElem] at h
  obtain ⟨hi,hp,_⟩:=h
  show decide (0≤(i:Int))=_
  rw [decide_eq_true (by omega)]
  symm
  rw [List.any_eq_true]
  exact ⟨l[i],List.getElem_mem hi,hp⟩
theorem a9q {α:Type} {l:List α} {p:α→Bool} {i:Nat} (hi:i < l.length) (hp:p l[i]=true) (h:∀ k (hk:k < i),p (l[k]'(by omega))=false):a3o l p=i:=by
 unfold a3o
 have:l.findIdx? p=some i:=by
  rw [List.findIdx?_eq_some_iff_getElem]
  exact ⟨hi,hp,fun j hj=>by simp [h j hj]⟩
 rw [this]
theorem a7f {α:Type} {l:List α} {p:α→Bool} (h:∀ k (hk:k < l.length),p l[k]=false):a3o l p=-1:=by
 unfold a3o
 have:l.findIdx? p=none:=by
  rw [List.findIdx?_eq_none_iff]
  intro x hx
  obtain ⟨k,hk,rfl⟩:=List.getElem_of_mem hx
  exact h k hk
 rw [this]
theorem b1s {α:Type} (l:List α) (p:α→Bool):(a3o l p=-1∧l.find? p=none)∨∃ i,∃ h:i < l.length,a3o l p=i∧l.find? p=some l[i]:=by
 unfold a3o
 cases h:l.findIdx? p with
 | none=>
  rw [List.findIdx?_eq_none_iff] at h
  exact .inl ⟨rfl,List.find?_eq_none.2 fun x hx=>by simp [h x hx]⟩
 | some i=>
  rw [List.findIdx?_eq_some_iff_getElem] at h
  obtain ⟨hi,hp,hlt⟩:=h
  exact .inr ⟨i,hi,rfl,List.find?_eq_some_iff_getElem.2 ⟨hp,i,hi,rfl,fun j hj=>by simpa using hlt j hj⟩⟩
end Go.KP
end
section
namespace Go.KP
def mkL {α:Type} (f:Nat→α) (w n k:Nat):List α:=(List.range n).map fun j=>f (k+w*j)
theorem a00 {α:Type} (f:Nat→α) (w n k:Nat):(mkL f w n k).length=n:=by simp [mkL]
theorem mkL_at {α:Type} {f:Nat→α} {w n k j:Nat} (h:j < n):(mkL f w n k)[j]'(by rw [a00];exact h)=f (k+w*j):=by simp [mkL]
theorem c1v {α:Type} (f:Nat→α) (w i k:Nat):mkL f w (i+1) k=mkL f w i k++[f (k+w*i)]:=by simp [mkL,List.range_succ]
def mkU {α:Type} (f:Nat→α) (w:Nat) (l:List α) (k i:Nat):List α:=mkL f w i k++l.drop i
theorem b4q {α:Type} (f:Nat→α) (w:Nat) (l:List α) (k:Nat):mkU f w l k 0=l:=by simp [mkU,mkL]
theorem b8l {α:Type} (f:Nat→α) (w:Nat) (l:List α) (k:Nat):mkU f w l k l.length=mkL f w l.length k:=by simp [mkU]
theorem b8k {α:Type} (f:Nat→α) (w:Nat) (l:List α) (k i:Nat) (h:i≤l.length):(mkU f w l k i).length=l.length:=by simp [mkU,a00];omega
theorem b8j {α:Type} (f:Nat→α) (w:Nat) (l:List α) (k i:Nat) (h:i < l.length):(mkU f w l k i).set i (f (k+w*i))=mkU f w l k (i+1):=by
 unfold mkU
 rw [List.set_append_right _ _ (by rw [a00];exact Nat.le_refl _),a00,Nat.sub_self,List.drop_eq_getElem_cons h,List.set_cons_zero,c1v,List.append_assoc]
 rfl
end Go.KP
end
section
namespace Go.KP
end Go.KP
end
section
namespace Go.KP
def Y4 (sep:Tx):List Tx→Tx
 | []=>[]
 | x :: xs=>x++(xs.map (sep++·)).flatten
theorem b6u (sep:Tx) (xs:List Tx) (x:Tx):Y4 sep (xs++[x])=Y4 sep xs++((if xs=[] then [] else sep)++x):=by
 cases xs with
 | nil=>simp [Y4]
 | cons y ys=>simp [Y4]
theorem b6t (sep:Tx) (xs:List Tx) (i:Nat) (h:i < xs.length):Y4 sep (xs.take (i+1))=Y4 sep (xs.take i)++((if i=0 then [] else sep)++xs[i]):=by
 rw [List.take_add_one,List.getElem?_eq_getElem h]
 simp only [Option.toList_some]
 rw [b6u]
 by_cases hi:i=0
 · subst hi;simp
 · have:¬ xs.take i=[]:=by
    intro e
    have:=congrArg List.length e
    rw [List.length_take,List.length_nil] at this
    omega
   rw [if_neg this,if_neg hi]
theorem b5d {B:Nat} {sep:Tx}:∀ {xs:List Tx},(∀ x∈xs,x.length+sep.length≤B)→((xs.map (sep++·)).flatten).length≤xs.length*B
 | [],_=>by simp
 | x :: xs,h=>by
  have h1:=h x (by simp)
  have h2:=b5d (xs:=xs) fun y hy=>h y (by simp [hy])
  simp only [List.map_cons,List.flatten_cons,List.length_append,List.length_cons,Nat.add_mul] at *
  omega
theorem b1r {B:Nat} {sep:Tx} {xs:List Tx} (h:∀ x∈xs,x.length+sep.length≤B):(Y4 sep xs).length≤xs.length*B:=by
 cases xs with
 | nil=>simp [Y4]
 | cons x xs=>
  have h1:=h x (by simp)
  have h2:=b5d (xs:=xs) fun y hy=>h y (by simp [hy])
  simp only [Y4,List.length_append,List.length_cons,Nat.add_mul] at *
  omega
end Go.KP
end
section
namespace Go.PW
open Go.RowKit Go.KP
theorem c0z {a b:UInt8}:((a.toNat:Int)=(b.toNat:Int))↔a=b:=by
 constructor
 · intro h;exact UInt8.toNat_inj.1 (by omega)
 · rintro rfl;rfl
def rvb (c:UInt8):RV:=.int .u8 c.toNat
def tx (t:Tx):RV:=.str (bs t)
def num (n:Int):RV:=.int .i64 n
theorem a4j (l:Tx):U1 (l.map rvb)=bs l:=by
 unfold U1 bs
 congr 1
 congr 1
 rw [List.map_map]
 have:(RV.byte ∘ rvb)=id:=by
  funext c
  simp [rvb,RV.byte]
 rw [this];simp
theorem Y8 {x:Int} (h1:0≤x) (h2:x < 256):IntKind.u8.wrap x=x:=by
 unfold IntKind.wrap
 simp [IntKind.bits,IntKind.signed]
 omega
def rvUrl (u:LUrl):RV:=.agg [tx u.scheme,tx u.user,tx u.host,num u.port,tx u.path,tx u.query,tx u.frag,.bool u.hasQ,.bool u.hasF]
end Go.PW
end
section
namespace Go.PW
open Go.RowKit Go.KP
variable [GF]
theorem c1h (φ:Nat→Option RV) (rs:List RV):PV.plL (PV.frzL φ (rs.map .val))=rs.map .val:=by
 induction rs with
 | nil=>rfl
 | cons r rs ih=>simp [PV.frzL,PV.plL,PV.frz,PV.pl,ih]
def a8t (u:LUrl):List PV:=[.val (tx u.scheme),.val (tx u.user),.val (tx u.host),.val (num u.port),.val (tx u.path),.val (tx u.query),.val (tx u.frag),.val (.bool u.hasQ),.val (.bool u.hasF)]
def c1j (r:LUrl×Bool):PV:=.tup [.val (rvUrl r.1),.val (.bool r.2)]
def a87 (x:LTarget):RV:=.agg [tx x.url,num x.prio,num x.weight]
def c06 (x:LPeer):RV:=.agg [tx x.target.url,num x.target.prio,num x.target.weight,num x.fails,num x.retry,.bool x.gone]
theorem c23 {P:Program} {st:St} {Ke:Kx (PV→St→Prop)} {kx:Kx (RV→St→Prop)} {d f ps as p} (ha:O1 st.mem ps=some as) (hb:boxIds ps=[]) (hs:∀ b,p.shift b=p) (ho:p.ownLt 0=true) (hr:ps.all PV.noOwn=true∨p.flat=true) (h:n7 P f as (.ret p []) []) (hK:Ke.k p st):KC P st d f ps (Ke:=Ke) (kx:=kx):=by
 refine a13 (K:=fun q st'=>q=p∧st'=st) (kx:=fun _ _=>False) (fun p s hh=>by obtain ⟨rfl,rfl⟩:=hh;exact hK) (fun _ _ hh=>hh.elim) (a2f ?_)
 unfold a1c
 rw [ha]
 exact ⟨hb,p,h,hs,ho,hr,rfl⟩
theorem c22 {P:Program} {st:St} {Kp:Kx (PV→Prop)} {f ps as p} (ha:O1 st.mem ps=some as) (hb:boxIds ps=[]) (hs:∀ b,p.shift b=p) (ho:p.ownLt 0=true) (hr:ps.all PV.noOwn=true∨p.flat=true) (h:n7 P f as (.ret p []) []) (hK:Kp.k p):KX P st f ps (Kp:=Kp):=by
 unfold KX a1c
 rw [ha]
 exact ⟨hb,p,h,hs,ho,hr,hK⟩
theorem T0 {P:Program} {st:St} {Ke:Kx (PV→St→Prop)} {kx:Kx (RV→St→Prop)} {d f ps as a b} (ha:O1 st.mem ps=some as) (hb:boxIds ps=[]) (hr:ps.all PV.noOwn=true∨(PV.tup [.val a,.val b]).flat=true) (h:n7 P f as (.ret (.tup [.val a,.val b]) []) []) (hK:Ke.k (.tup [.val a,.val b]) st):KC P st d f ps (Ke:=Ke) (kx:=kx):=
 c23 ha hb (fun _=>rfl) rfl hr h hK
theorem a4y {P:Program} {st:St} {Kp:Kx (PV→Prop)} {f ps as a b} (ha:O1 st.mem ps=some as) (hb:boxIds ps=[]) (hr:ps.all PV.noOwn=true∨(PV.tup [.val a,.val b]).flat=true) (h:n7 P f as (.ret (.tup [.val a,.val b]) []) []) (hK:Kp.k (.tup [.val a,.val b])):KX P st f ps (Kp:=Kp):=
 c22 ha hb (fun _=>rfl) rfl hr h hK
end Go.PW
end
section
namespace Go.PW
open Go.RowKit Go.KP
variable [GF]
def RV.sv:RV→Option Value
 | .str s=>some (.string s)
 | .int k n=>some (.int k n)
 | .bool b=>some (.bool b)
 | _=>none
def svs:List RV→Option (List Value)
 | []=>some []
 | r :: rs=>match r.sv,svs rs with
  | some v,some vs=>some (v :: vs)
  | _,_=>none
theorem sv_rep {L:Nat→Prop} {w:World} {r:RV} {v u:Value} (h:r.sv=some v) (hr:RepR L w r u):u=v:=by
 cases hr with
 | bool b=>simpa [RV.sv] using h
 | int k n=>simpa [RV.sv] using h
 | str s=>simpa [RV.sv] using h
 | _=>simp [RV.sv] at h
theorem sv_self {L:Nat→Prop} {w:World} {r:RV} {v:Value} (h:r.sv=some v):RepR L w r v:=by
 cases r with
 | bool b=>simp [RV.sv] at h;subst h;exact .bool b
 | int k n=>simp [RV.sv] at h;subst h;exact .int k n
 | str s=>simp [RV.sv] at h;subst h;exact .str s
 | _=>simp [RV.sv] at h
theorem a8p {L:Nat→Prop} {w:World}:∀ {rs:List RV} {vals vs:List Value} {ms:List Nat},svs rs=some vals→ArgsRep L w (rs.map .val) vs ms→vs=vals∧ms=[]
 | [],vals,vs,ms,h,hr=>by
  simp [svs] at h;subst h
  cases hr;exact ⟨rfl,rfl⟩
 | r :: rs,vals,vs,ms,h,hr=>by
  rw [List.map_cons] at hr
  cases hr with
  | cons _ _ v vs' ms1 ms2 h1 h2=>
   cases h1 with
   | val _ _ h1=>
    simp only [svs] at h
    split at h
    · rename_i v' vs'' e1 e2
      obtain ⟨rfl,rfl⟩:=a8p e2 h2
      have:=sv_rep e1 h1
      subst this
      have:=Option.some.inj h
      exact ⟨this,rfl⟩
    · cases h
theorem a3x {F:Ctx} {γ:Nat→Value} {w:World}:MemInv F γ (J1 []) w:=
 ⟨fun id cs h=>by simp [J1] at h,fun id E sz xs h=>by simp [J1] at h,fun id E sz n c h=>by simp [J1] at h,fun id s clk m h=>by simp [J1] at h,fun id id' b h=>by simp [J1,MObj.live] at h⟩
theorem c0i {P:Program} {f:Nat} {rs:List RV} {vals:List Value} {p:PV} {v:Value} (ha:svs rs=some vals) (hp:∀ γ L w,RepP γ L w p v)
 (h:∀ L w,Globs L w→b1e L w→Calls P f vals.toArray w fun e w'=>e=.returned v∧Below w.heap.size w w'):n7 P f (rs.map .val) (.ret p []) []:=by
 intro L w vs ms hL hgl hgb hargs hnd
 obtain ⟨rfl,rfl⟩:=a8p ha hargs
 refine (h L w hgl hgb).mono fun e w' ⟨he,hb⟩=>?_
 exact ⟨Outside.of_below hb,v,fun _=>undef,he,hp _ _ _,a3x,rfl,fun i b cells h1 h2=>by simp at h1⟩
theorem a52 {P:Program} {f:Nat} {rs:List RV} {vals:List Value} {r:RV} {v:Value} (ha:svs rs=some vals) (hv:r.sv=some v)
 (h:∀ L w,Globs L w→b1e L w→Calls P f vals.toArray w fun e w'=>e=.returned v∧Below w.heap.size w w'):n7 P f (rs.map .val) (.ret (.val r) []) []:=
 c0i ha (fun γ L w=>.val _ _ (sv_self hv)) h
theorem a56 {w w':World} (h:w'=w):Below w.heap.size w w':=by subst h;exact Below.refl _ _
end Go.PW
end
section
namespace Go.PW
open Go.RowKit Go.KP
variable [GF]
def b0r (M:Nat→MObj):List Nat→List (List RV)→Prop
 | [],[]=>True
 | id :: ids,b :: bs=>M id=.box (b.map .val)∧b0r M ids bs
 | _,_=>False
def T7 (M:Nat→MObj):Nat→List (List RV)→Prop
 | _,[]=>True
 | k,b :: bs=>M (900+k)=.box (b.map .val)∧T7 M (k+1) bs
theorem a5a:∀ {M:Nat→MObj} {ids:List Nat} {B:List (List RV)},b0r M ids B→R6 M ids B=M
 | M,[],[],_=>rfl
 | M,id :: ids,b :: bs,h=>by
  have e:upd id (.box (b.map .val)) M=M:=by
   funext x
   by_cases hx:x=id
   · subst hx;rw [P4,h.1]
   · rw [P2 _ _ _ _ hx]
  simp only [R6]
  rw [e]
  exact a5a h.2
 | M,[],_ :: _,h=>h.elim
 | M,_ :: _,[],h=>h.elim
theorem b1i:∀ {M:Nat→MObj} {ids:List Nat} {B:List (List RV)},b0r M ids B→B.length=ids.length
 | M,[],[],_=>rfl
 | M,id :: ids,b :: bs,h=>by simp [b1i h.2]
 | M,[],_ :: _,h=>h.elim
 | M,_ :: _,[],h=>h.elim
theorem b30 (b:List RV):J2 (b.map .val)=some b:=by
 induction b with
 | nil=>rfl
 | cons r b ih=>simp [J2,ih]
theorem a3j {st:St}:∀ {k:Nat} {B:List (List RV)},T7 st.mem k B→a15 st.fin k B
 | k,[],_=>trivial
 | k,b :: B,h=>by
  have e2:st.fin.mem (900+k)=.box (b.map .val):=by
   simp only [St.fin,St.freeze,h.1,MObj.pl,c1h]
  exact ⟨by rw [e2];exact b30 b,a3j h.2⟩
def RetB (res:List Rs) (p:PV) (B:List (List RV)):PExit→St→Prop
 | .normal,st=>O5 res st.fin=some p∧T7 st.mem 0 B
 | .ret,st=>O5 res st.fin=some p∧T7 st.mem 0 B
 | _,_=>False
@[simp] theorem a6z {res p B} {st:St}:RetB res p B .ret st=(O5 res st.fin=some p∧T7 st.mem 0 B):=by rfl
@[simp] theorem RetB_normal {res p B} {st:St}:RetB res p B .normal st=(O5 res st.fin=some p∧T7 st.mem 0 B):=by rfl
theorem a7m {P:Program} {f:Nat} {c:PC} {res:List Rs} {as:List AV} {p:PV} {B:List (List RV)} (hm:P.follows .mixedOrders=true) (hc:M9 P f c as.length res=true) (hb:a7 as=B) (hp:∀ ι,p.ren ι=p)
 (h:U0 P c (d3 as) (RetB res p B)):n7 P f as (.ret p []) B:=by
 refine a6v hm hc (R5 (fun e s hh=>?_) h)
 have key:O5 res s.fin=some p∧T7 s.mem 0 B→∃ st',Le s st'∧b1f res (a7 as).length (.ret p []) B .ret st':=fun hh=>
  ⟨s.fin,(Le.freeze s _).trans (Le.plain _),(by rw [hb]),⟨⟨id,by rw [hp];exact hh.1,fun i j hi=>by simp at hi,fun i r hr=>by simp at hr⟩,a3j hh.2⟩⟩
 cases e with
 | normal=>exact key hh
 | ret=>exact key hh
 | exit id=>exact hh.elim
 | pan r=>exact hh.elim
theorem a6j (st:St):st.kill (fun _=>false)=st:=by
 cases st with
 | mk env mem=>
  simp only [St.kill,PV.kill_none]
  congr 1
  funext x
  cases mem x with
  | dead=>rfl
  | row E sz xs=>rfl
  | box cs=>simp [MObj.kill,PV.killL_none]
  | prow E sz n c=>simp [MObj.kill,PV.kill_none]
  | map s clk m => 
   have:(fun k=>(m k).map fun p=>(p.1.kill fun _=>false,p.2))=m:=by funext k;cases m k<;>simp [PV.kill_none]
   simp only [MObj.kill,this];rfl
theorem a5z {P:Program} {st:St} {Ke:Kx (PV→St→Prop)} {kx:Kx (RV→St→Prop)} {d f ps as r ids B} (ha:O1 st.mem ps=some as) (hb:boxIds ps=ids) (hn:ids.Nodup) (hlt:ids.all (· < x7 d)=true) (hB:b0r st.mem ids B) (hr:ps.all PV.noOwn=true)
 (h:n7 P f as (.ret (.val r) []) B) (hK:Ke.k (.val r) st):KC P st d f ps (Ke:=Ke) (kx:=kx):=by
 unfold KC
 refine .inl ?_
 unfold a2o
 rw [ha]
 refine ⟨by rw [hb];exact hn,by rw [hb];exact hlt,.ret (.val r) [],B,h,by rw [hb];exact b1i hB,rfl,.inl hr,?_⟩
 have e:(fun i=>decide (x7 d≤i) && decide (i < x7 d+([]:List Row).length))=fun _=>false:=by
  funext i
  simp only [List.length_nil,Nat.add_zero,Bool.and_eq_false_imp,decide_eq_true_eq,decide_eq_false_iff_not]
  omega
 rw [e,a6j]
 simp only [R0,hb]
 rw [a5a hB]
 exact hK
end Go.PW
end
section
namespace Go.PW
open Go.RowKit Go.KP
def a58 {α:Type} (r:α→RV) (z:RV) (l:List α) (i:Nat):List RV:=(l.take i).map r++List.replicate (l.length - i) z
theorem b9c {α:Type} (r:α→RV) (z:RV) (l:List α):a58 r z l 0=List.replicate l.length z:=by simp [a58]
theorem c0y {α:Type} (r:α→RV) (z:RV) (l:List α):a58 r z l l.length=l.map r:=by simp [a58]
theorem c0x {α:Type} (r:α→RV) (z:RV) (l:List α) (i:Nat) (h:i≤l.length):(a58 r z l i).length=l.length:=by simp [a58];omega
theorem c0w {α:Type} (r:α→RV) (z:RV) (l:List α) (i:Nat) (h:i < l.length):(a58 r z l i).set i (r l[i])=a58 r z l (i+1):=by
 unfold a58
 have h1:l.length - i=(l.length - (i+1))+1:=by omega
 have h2:((l.take i).map r).length=i:=by simp;omega
 rw [h1,List.replicate_succ,List.set_append_right _ _ (by omega),h2,Nat.sub_self,List.set_cons_zero]
 rw [List.take_add_one,List.getElem?_eq_getElem h,List.map_append,List.append_assoc]
 rfl
theorem upTo_at {α:Type} (r:α→RV) (z:RV) (l:List α) (i:Nat) (h:i < l.length):(a58 r z l i)[i]?.getD .nilptr=z:=by
 unfold a58
 have h1:l.length - i=(l.length - (i+1))+1:=by omega
 have h2:((l.take i).map r).length=i:=by simp;omega
 rw [h1,List.replicate_succ,List.getElem?_append_right (by omega),h2]
 simp
def W0 {α:Type} (sz id:Nat):List α→PV
 | []=>.emp sz
 | _ :: _=>.own id
def a2a {α:Type} (E sz:Nat) (r:α→RV):List α→MObj
 | []=>.dead
 | x :: xs=>.row E sz ((x :: xs).map r)
@[simp] theorem ownOr_nil {α:Type} (sz id:Nat):W0 sz id ([]:List α)=.emp sz:=rfl
@[simp] theorem ownOr_cons {α:Type} (sz id:Nat) (x:α) (xs:List α):W0 sz id (x :: xs)=.own id:=rfl
@[simp] theorem rowOr_nil {α:Type} (E sz:Nat) (r:α→RV):a2a E sz r []=.dead:=rfl
@[simp] theorem rowOr_cons {α:Type} (E sz:Nat) (r:α→RV) (x:α) (xs:List α):a2a E sz r (x :: xs)=.row E sz (r x :: xs.map r):=rfl
theorem a9e {α:Type} (sz id:Nat) (xs:List α) (x:α):W0 sz id (xs++[x])=.own id:=by cases xs<;>rfl
theorem a89 {α:Type} (E sz:Nat) (r:α→RV) (xs:List α) (x:α):a2a E sz r (xs++[x])=.row E sz (xs.map r++[r x]):=by cases xs<;>simp [a2a]
theorem Le.mkD [GF] {st:St} (le:List (Nat×PV)) (lm:List (Nat×MObj)) (h1:∀ kp∈le,st.env kp.1=kp.2) (h2:∀ kp∈lm,kp.2=.dead∨st.mem kp.1=kp.2):Le st ⟨P6 le,P3 lm⟩:=by
 refine Le.drop (fun i=>?_) (fun x=>?_)
 · show P3 lm i=st.mem i∨P3 lm i=.dead
   induction lm with
   | nil=>exact .inr rfl
   | cons kp lm ih=>
    obtain ⟨k,o⟩:=kp
    simp only [P3]
    split
    · rename_i e;subst e
      rcases h2 (i,o) (by simp) with h | h
      · exact .inr h
      · exact .inl h.symm
    · exact ih fun kp hkp=>h2 kp (by simp [hkp])
 · show Wk (st.env x) (P6 le x)
   induction le with
   | nil=>exact .undef _
   | cons kp le ih=>
    obtain ⟨k,p⟩:=kp
    simp only [P6]
    split
    · rename_i e;subst e;rw [h1 (x,p) (by simp)];exact .refl p
    · exact ih fun kp hkp=>h1 kp (by simp [hkp])
@[simp] theorem rvTarget_len (x:LTarget):(a87 x).cells.length=3:=rfl
@[simp] theorem rvPeer_len (x:LPeer):(c06 x).cells.length=6:=rfl
def rvGroup (x:LGroup):RV:=.agg [tx x.name,num x.age,.list 3 (x.targets.map a87)]
@[simp] theorem rvGroup_len (x:LGroup):(rvGroup x).cells.length=3:=rfl
def b58 (x:LRule):RV:=.agg [tx x.name,.list 1 (x.words.map tx)]
@[simp] theorem rvRule_len (x:LRule):(b58 x).cells.length=2:=rfl
def c05 (x:LPolicy):RV:=.agg [tx x.reportTo,.list 1 (x.uris.map tx),.list 2 (x.rules.map b58)]
@[simp] theorem rvPolicy_len (x:LPolicy):(c05 x).cells.length=3:=rfl
def b39 (x:LViolation):RV:=.agg [tx x.document,tx x.referrer,tx x.blocked,tx x.source,tx x.directive,tx x.sample,num x.line,num x.column,.bool x.redirected]
@[simp] theorem c0s (x:LViolation):(b39 x).cells.length=9:=rfl
def a88 (x:LReport):RV:=.agg [num x.id,num x.born,num x.tries,tx x.body]
@[simp] theorem rvReport_len (x:LReport):(a88 x).cells.length=4:=rfl
def rvQueue (x:LQueue):RV:=.agg [.list 4 (x.items.map a88),.list 1 (x.recent.map tx)]
@[simp] theorem rvQueue_len (x:LQueue):(rvQueue x).cells.length=2:=rfl
def b1j (x:LChannel):RV:=.agg [tx x.group.name,num x.group.age,.list 3 (x.group.targets.map a87),.list 6 (x.peers.map c06),.list 4 (x.queue.items.map a88),.list 1 (x.queue.recent.map tx)]
@[simp] theorem rvChannel_len (x:LChannel):(b1j x).cells.length=6:=rfl
def b75 (x:LEntry):RV:=.agg [num x.kind,num x.id,num x.at_]
@[simp] theorem rvEntry_len (x:LEntry):(b75 x).cells.length=3:=rfl
def P8 (x:LWire):RV:=.agg [num x.at_,num x.status,tx x.group,tx x.url,.list 1 (x.ids.map num),tx x.body,.bool x.lost]
@[simp] theorem rvWire_len (x:LWire):(P8 x).cells.length=7:=rfl
def rvPipe (x:LPipe):RV:=.agg [.list 6 (x.channels.map b1j),tx x.policy.reportTo,.list 1 (x.policy.uris.map tx),.list 2 (x.policy.rules.map b58),num x.now,num x.next,.list 3 (x.log.map b75),.list 7 (x.wires.map P8)]
@[simp] theorem rvPipe_len (x:LPipe):(rvPipe x).cells.length=8:=rfl
def rvEvent (x:LEvent):RV:=.agg [num x.kind,num x.draw,num x.status,num x.ticks,tx x.text,tx x.name,tx x.violation.document,tx x.violation.referrer,tx x.violation.blocked,tx x.violation.source,tx x.violation.directive,tx x.violation.sample,num x.violation.line,num x.violation.column,.bool x.violation.redirected,.bool x.lost]
@[simp] theorem rvEvent_len (x:LEvent):(rvEvent x).cells.length=16:=rfl
def E8 (x:LParcel):RV:=.agg [num x.id,num x.age,tx x.body]
@[simp] theorem rvParcel_len (x:LParcel):(E8 x).cells.length=3:=rfl
def rvBox (x:LBox):RV:=.agg [.list 1 (x.ids.map num),.list 1 (x.times.map num),.list 1 (x.bodies.map tx)]
@[simp] theorem rvBox_len (x:LBox):(rvBox x).cells.length=3:=rfl
end Go.PW
end
section
namespace Go.KP
def hexs:Tx:=[48,49,50,51,52,53,54,55,56,57,97,98,99,100,101,102]
def qb (c:UInt8):Tx:=if c.toNat=34∨c.toNat=92 then [92,c] else if 32≤c.toNat∧c.toNat≤126 then [c] else [92,117,48,48,hexs.getD (c.toNat / 16) 0,hexs.getD (c.toNat % 16) 0]
def a0o (t:Tx):Tx:=t.flatMap qb
def a0d (t:Tx):Tx:=34 :: (a0o t++[34])
theorem qb_len (c:UInt8):(qb c).length≤6:=by 
 unfold qb
 split
 · simp
 · split<;>simp
theorem a2s (t:Tx):(a0o t).length≤6*t.length:=by
 induction t with
 | nil=>simp [a0o]
 | cons c t ih=>have:=qb_len c;simp only [a0o,List.flatMap_cons,List.length_append,List.length_cons] at *;omega
theorem a3a (t:Tx):(a0d t).length≤6*t.length+2:=by have:=a2s t;simp [a0d];omega
theorem a9c (t:Tx) (i:Nat) (h:i < t.length):a0o (t.take (i+1))=a0o (t.take i)++qb t[i]:=by
 unfold a0o;rw [List.take_add_one,List.getElem?_eq_getElem h,List.flatMap_append];simp
inductive LJson where
 | mk (kind num:Int) (text:Tx) (names:List Tx) (items:List LJson)
def LJson.kind:LJson→Int | .mk k _ _ _ _=>k
def LJson.num:LJson→Int | .mk _ n _ _ _=>n
def LJson.text:LJson→Tx | .mk _ _ t _ _=>t
def LJson.names:LJson→List Tx | .mk _ _ _ ns _=>ns
def LJson.items:LJson→List LJson | .mk _ _ _ _ is=>is
def R8:Int→List Tx→List Tx→List Tx
 | 6,n :: ns,t :: ts=>(a0d n++58 :: t) :: R8 6 ns ts
 | _,_,ts=>ts
theorem Z6:∀ (k:Int) (ns ts:List Tx),(R8 k ns ts).length=ts.length
 | _,[],ts=>by unfold R8;split<;>simp_all
 | _,_ :: _,[]=>by unfold R8;split<;>simp_all
 | k,n :: ns,t :: ts=>by
  unfold R8
  split
  · rename_i h1 h2;cases h1;cases h2;simp [Z6 6 ns ts]
  · rfl
theorem a0t {k:Int} (hk:k≠6) (ns ts:List Tx):R8 k ns ts=ts:=by
 unfold R8;split
 · exact absurd rfl hk
 · rfl
theorem a5r:∀ (ns ts:List Tx),ns.length=ts.length→∀ i (h1:i < ns.length) (h2:i < ts.length) (h3:i < (R8 6 ns ts).length),(R8 6 ns ts)[i]=a0d ns[i]++58 :: ts[i]
 | [],_,_,i,h1,_,_=>by simp at h1
 | n :: ns,[],h,_,_,_,_=>by simp at h
 | n :: ns,t :: ts,h,0,_,_,_=>by simp [R8]
 | n :: ns,t :: ts,h,i+1,h1,h2,h3=>by
  simp only [R8,List.getElem_cons_succ]
  exact a5r ns ts (by simpa using h) i _ _ _
theorem b5h (n:Nat) (h:n < 1000000000):(Z3 n).length≤9:=a9r 8 n (by omega)
end Go.KP
end
section
namespace Go.PW
open Go.KP
mutual
def I9:LJson→RV
 | .mk k n t ns is=>.agg [num k,num n,tx t,.list 1 (ns.map tx),.list 5 (X9 is)]
def X9:List LJson→List RV
 | []=>[]
 | x :: xs=>I9 x :: X9 xs
end
theorem b4a (l:List LJson):X9 l=l.map I9:=by
 induction l with
 | nil=>rfl
 | cons x xs ih=>simp [X9,ih]
theorem m7 (k n:Int) (t:Tx) (ns:List Tx) (is:List LJson):I9 (.mk k n t ns is)=.agg [num k,num n,tx t,.list 1 (ns.map tx),.list 5 (is.map I9)]:=by rw [I9,b4a]
end Go.PW
end
section
namespace Go.KP
def a6i (k:Nat):Int:=(k:Nat)
end Go.KP
end
section
namespace Go.KP
inductive JR (α:Type) where
 | err (c:Int)
 | ok (v:α) (i:Nat)
def jws (c:UInt8):Bool:=decide (c.toNat=32∨c.toNat=9∨c.toNat=10∨c.toNat=13)
def b9 (t:Tx) (i:Nat):Nat:=i+((t.drop i).takeWhile jws).length
theorem b4y {t:Tx} {i:Nat} (h:i < t.length) (hw:jws t[i]=true):b9 t i=b9 t (i+1):=by
 unfold b9
 rw [List.drop_eq_getElem_cons h,List.takeWhile_cons,if_pos hw]
 simp;omega
theorem b4z {t:Tx} {i:Nat} (h:i < t.length) (hw:jws t[i]=false):b9 t i=i:=by
 unfold b9
 rw [List.drop_eq_getElem_cons h,List.takeWhile_cons,if_neg (by simp [hw])]
 simp
theorem b1u {t:Tx} {i:Nat} (h:t.length≤i):b9 t i=i:=by
 unfold b9
 rw [List.drop_eq_nil_of_le h];simp
theorem Q1 {t:Tx} {i:Nat} (h:i≤t.length):b9 t i≤t.length:=by
 have h1:=(List.takeWhile_sublist (p:=jws) (l:=t.drop i)).length_le
 rw [List.length_drop] at h1
 unfold b9;omega
def a10 (c:UInt8):Option Nat:=if 48≤c.toNat∧c.toNat≤57 then some (c.toNat - 48) else if 97≤c.toNat∧c.toNat≤102 then some (c.toNat - 87) else if 65≤c.toNat∧c.toNat≤70 then some (c.toNat - 55) else none
theorem a6s {c:UInt8} {n:Nat} (h:a10 c=some n):n < 16:=by
 unfold a10 at h
 split at h
 · cases h;omega
 · split at h
   · cases h;omega
   · split at h
     · cases h;omega
     · cases h
def a2b (c:UInt8):Option UInt8:=if c=34∨c=92∨c=47 then some c else if c=98 then some 8 else if c=102 then some 12 else if c=110 then some 10 else if c=114 then some 13 else if c=116 then some 9 else none
def a7h (t:Tx) (i:Nat):Option (UInt8×Nat):=
 if i < t.length then match a2b (t.getD i 0) with
  | some b=>some (b,i+1)
  | none=>if t.getD i 0=117∧i+5≤t.length∧t.getD (i+1) 0=48∧t.getD (i+2) 0=48 then match a10 (t.getD (i+3) 0),a10 (t.getD (i+4) 0) with
   | some a,some b=>some (UInt8.ofNat (16*a+b),i+5)
   | _,_=>none
   else none
 else none
theorem b3a {t:Tx} {i:Nat} {b:UInt8} {k:Nat} (h:a7h t i=some (b,k)):i < k∧k≤t.length:=by
 unfold a7h at h
 split at h
 · rename_i hi
   split at h
   · cases h;omega
   · split at h
     · rename_i hh
       split at h
       · cases h;omega
       · cases h
     · cases h
 · cases h
def b28 (t:Tx):Nat→Nat→Tx→JR Tx
 | 0,_,_=>.err 3
 | n+1,i,out=>if i < t.length then
  (if t.getD i 0=34 then (if 120 < out.length then .err 8 else .ok out (i+1))
   else if t.getD i 0=92 then (match a7h t (i+1) with | some (b,k)=>b28 t n k (out++[b]) | none=>.err 3)
   else if 32≤(t.getD i 0).toNat∧(t.getD i 0).toNat≤126 then b28 t n (i+1) (out++[t.getD i 0]) else .err 3)
  else .err 3
def a02 (t:Tx) (i:Nat):JR Tx:=if i < t.length∧t.getD i 0=34 then b28 t (t.length+1) (i+1) [] else .err 3
theorem b27 {t:Tx}:∀ {n i:Nat} {out v:Tx} {k:Nat},b28 t n i out=.ok v k→v.length≤120∧i < k∧k≤t.length
 | 0,i,out,v,k,h=>by cases h
 | n+1,i,out,v,k,h=>by
  unfold b28 at h
  split at h
  · rename_i hi
    split at h
    · split at h
      · cases h
      · cases h;omega
    · split at h
      · split at h
        · rename_i b k2 hb
          have:=b27 h
          have:=b3a hb
          omega
        · cases h
      · split at h
        · have:=b27 h;omega
        · cases h
  · cases h
theorem Z5 {t:Tx} {i:Nat} {v:Tx} {k:Nat} (h:a02 t i=.ok v k):v.length≤120∧i < k∧k≤t.length:=by
 unfold a02 at h
 split at h
 · have:=b27 h;omega
 · cases h
def Y6 (t:Tx) (i:Nat):Nat:=i+((t.drop i).takeWhile Q8).length
theorem b1z {t:Tx} {i:Nat} (h:i < t.length) (hw:Q8 t[i]=true):Y6 t i=Y6 t (i+1):=by
 unfold Y6
 rw [List.drop_eq_getElem_cons h,List.takeWhile_cons,if_pos hw]
 simp;omega
theorem a9z {t:Tx} {i:Nat} (h:i < t.length) (hw:Q8 t[i]=false):Y6 t i=i:=by
 unfold Y6
 rw [List.drop_eq_getElem_cons h,List.takeWhile_cons,if_neg (by simp [hw])]
 simp
theorem a7i {t:Tx} {i:Nat} (h:t.length≤i):Y6 t i=i:=by
 unfold Y6
 rw [List.drop_eq_nil_of_le h];simp
theorem c2e (t:Tx) (i:Nat):i≤Y6 t i:=by unfold Y6;omega
theorem c2d {t:Tx} {i:Nat} (h:i≤t.length):Y6 t i≤t.length:=by
 have h1:=(List.takeWhile_sublist (p:=Q8) (l:=t.drop i)).length_le
 rw [List.length_drop] at h1
 unfold Y6;omega
def a08 (t:Tx) (i:Nat):Nat:=if i < t.length∧t.getD i 0=45 then i+1 else i
theorem a9w {t:Tx} {i:Nat} (h:i≤t.length):i≤a08 t i∧a08 t i≤t.length:=by unfold a08;split<;>omega
def a0p (t:Tx) (i:Nat):Nat:=Y6 t (a08 t i)
theorem a6n {t:Tx} {i:Nat} (h:i≤t.length):i≤a0p t i∧a0p t i≤t.length:=by
 have h1:=a9w h
 have h2:=c2e t (a08 t i)
 have h3:=c2d h1.2
 unfold a0p;omega
def a30 (t:Tx) (i:Nat):JR Int:=match S6 ((t.take (a0p t i)).drop i) with
 | none=>.err 3
 | some n=>if -999999999≤n∧n≤999999999 then .ok n (a0p t i) else .err 4
def jnull:Tx:=[110,117,108,108]
def jtrue:Tx:=[116,114,117,101]
def jfalse:Tx:=[102,97,108,115,101]
def M7 (t w:Tx) (i:Nat):Bool:=decide ((t.take (i+w.length)).drop i=w)
def a71 (V:Nat→JR LJson) (t:Tx) (e:UInt8) (K:Nat→List Tx→List LJson→JR (List Tx×List LJson)) (k:Nat) (ns:List Tx) (xs:List LJson):JR (List Tx×List LJson):=match V k with
 | .err c=>.err c
 | .ok x k=>if 12 < xs.length+1 then .err 6 else
  if b9 t k < t.length∧t.getD (b9 t k) 0=e then .ok (ns,xs++[x]) (b9 t k+1)
  else if b9 t k < t.length∧t.getD (b9 t k) 0=44 then K (b9 t k+1) ns (xs++[x]) else .err 3
def a2k (V:Nat→JR LJson) (t:Tx) (obj:Bool) (e:UInt8):Nat→Nat→List Tx→List LJson→JR (List Tx×List LJson)
 | 0,_,_,_=>.err 6
 | n+1,i,ns,xs=>match obj with
  | false=>a71 V t e (a2k V t obj e n) (b9 t i) ns xs
  | true=>match a02 t (b9 t i) with
   | .err c=>.err c
   | .ok nm k=>if nm∈ns then .err 13 else
    if b9 t k < t.length∧t.getD (b9 t k) 0=58 then a71 V t e (a2k V t obj e n) (b9 t k+1) (ns++[nm]) xs else .err 3
def a5f (V:Nat→JR LJson) (t:Tx) (obj:Bool) (e:UInt8) (i:Nat):JR (List Tx×List LJson):=
 if b9 t i < t.length∧t.getD (b9 t i) 0=e then .ok ([],[]) (b9 t i+1) else a2k V t obj e 13 (b9 t i) [] []
def jmk (k:Int):JR (List Tx×List LJson)→JR LJson
 | .err c=>.err c
 | .ok v i=>.ok (.mk k 0 [] v.1 v.2) i
def a5p (t:Tx):Nat→Nat→JR LJson
 | d,i=>if b9 t i < t.length then
  (match t.getD (b9 t i) 0 with
   | 110=>if M7 t jnull (b9 t i) then .ok (.mk 1 0 [] [] []) (b9 t i+4) else .err 3
   | 116=>if M7 t jtrue (b9 t i) then .ok (.mk 2 1 [] [] []) (b9 t i+4) else .err 3
   | 102=>if M7 t jfalse (b9 t i) then .ok (.mk 2 0 [] [] []) (b9 t i+5) else .err 3
   | 34=>(match a02 t (b9 t i) with | .err c=>.err c | .ok v k=>.ok (.mk 4 0 v [] []) k)
   | 91=>(match d with | 0=>.err 12 | d+1=>jmk 5 (a5f (a5p t d) t false 93 (b9 t i+1)))
   | 123=>(match d with | 0=>.err 12 | d+1=>jmk 6 (a5f (a5p t d) t true 125 (b9 t i+1)))
   | _=>(match a30 t (b9 t i) with | .err c=>.err c | .ok n k=>.ok (.mk 3 n [] [] []) k))
  else .err 3
def a5e (t:Tx):JR LJson:=match a5p t 4 0 with
 | .err c=>.err c
 | .ok x k=>if b9 t k=t.length then .ok x t.length else .err 3
def Q2:Nat→LJson→Prop
 | d,.mk k n t ns is=>(k=1∧n=0∧t=[]∧ns=[]∧is=[])∨(k=2∧(n=0∨n=1)∧t=[]∧ns=[]∧is=[])∨(k=3∧(-999999999≤n∧n≤999999999)∧t=[]∧ns=[]∧is=[]) ∨
  (k=4∧n=0∧t.length≤120∧ns=[]∧is=[]) ∨
  (n=0∧t=[]∧is.length≤12∧(k=5∧ns=[]∨k=6∧ns.length=is.length∧ns.Nodup∧∀ s∈ns,s.length≤120)∧match d with | 0=>False | d+1=>∀ x∈is,Q2 d x)
def a28 (obj:Bool) (ns:List Tx) (xs:List LJson):Prop:=match obj with
 | false=>ns=[]
 | true=>ns.length=xs.length∧ns.Nodup∧∀ s∈ns,s.length≤120
theorem b9x {V:Nat→JR LJson} {t:Tx} {obj:Bool} {e:UInt8} {g:LJson→Prop} (hV:∀ i x k,V i=.ok x k→g x∧k≤t.length) :
 ∀ {n i:Nat} {ns:List Tx} {xs:List LJson} {v:List Tx×List LJson} {k:Nat},a28 obj ns xs→xs.length≤12→(∀ x∈xs,g x)→a2k V t obj e n i ns xs=.ok v k →
  a28 obj v.1 v.2∧v.2.length≤12∧(∀ x∈v.2,g x)∧k≤t.length:=by
 intro n
 induction n with
 | zero=>intro i ns xs v k _ _ _ h;cases h
 | succ n ih=>
  have item:∀ {p:Nat} {ns:List Tx} {xs:List LJson} {v:List Tx×List LJson} {k:Nat},(∀ x,a28 obj ns (xs++[x]))→xs.length≤12→(∀ x∈xs,g x)→a71 V t e (a2k V t obj e n) p ns xs=.ok v k →
   a28 obj v.1 v.2∧v.2.length≤12∧(∀ x∈v.2,g x)∧k≤t.length:=by
   intro p ns xs v k h1 h2 h3 h
   unfold a71 at h
   split at h
   · cases h
   · rename_i x k2 hx
     obtain ⟨g1,g2⟩:=hV _ _ _ hx
     have h3':∀ y∈xs++[x],g y:=fun y hy=>by
      rcases List.mem_append.1 hy with hy | hy
      · exact h3 y hy
      · rw [List.mem_singleton.1 hy];exact g1
     split at h
     · cases h
     · rename_i h12
       split at h
       · rename_i hh
         cases h
         exact ⟨h1 x,by simp;omega,h3',by omega⟩
       · split at h
         · exact ih (h1 x) (by simp;omega) h3' h
         · cases h
  intro i ns xs v k h1 h2 h3 h
  unfold a2k at h
  cases obj with
  | false=>exact item (fun x=>h1) h2 h3 h
  | true=>
   simp only [] at h
   split at h
   · cases h
   · rename_i nm k2 hq
     have hl:=(Z5 hq).1
     split at h
     · cases h
     · rename_i hnm
       split at h
       · refine item (fun x=>?_) h2 h3 h
         obtain ⟨a1,a2,a3⟩:=h1
         refine ⟨by simp [a1],?_,fun s hs=>?_⟩
         · rw [List.nodup_append]
           refine ⟨a2,by simp,fun a ha b hb=>?_⟩
           rw [List.mem_singleton.1 hb]
           rintro rfl
           exact hnm ha
         · rcases List.mem_append.1 hs with hs | hs
           · exact a3 s hs
           · rw [List.mem_singleton.1 hs];exact hl
       · cases h
theorem a9y {V:Nat→JR LJson} {t:Tx} {obj:Bool} {e:UInt8} {g:LJson→Prop} (hV:∀ i x k,V i=.ok x k→g x∧k≤t.length) {i:Nat} {v:List Tx×List LJson} {k:Nat} (h:a5f V t obj e i=.ok v k) :
 a28 obj v.1 v.2∧v.2.length≤12∧(∀ x∈v.2,g x)∧k≤t.length:=by
 have h0:a28 obj [] []:=by cases obj<;>simp [a28]
 unfold a5f at h
 split at h
 · cases h
   exact ⟨h0,by simp,by simp,by omega⟩
 · exact b9x hV h0 (by simp) (by simp) h
theorem b6z {k0:Int} {r:JR (List Tx×List LJson)} {x:LJson} {k:Nat} (h:jmk k0 r=.ok x k):∃ v,r=.ok v k∧x=.mk k0 0 [] v.1 v.2:=by
 cases r with
 | err c=>cases h
 | ok v i=>cases h;exact ⟨v,rfl,rfl⟩
theorem U6 {t w:Tx} {i:Nat} (h:M7 t w i=true):i+w.length≤t.length∨w=[]:=by
 unfold M7 at h
 have h:=of_decide_eq_true h
 have h1:=congrArg List.length h
 simp only [List.length_drop,List.length_take] at h1
 by_cases hw:w=[]
 · exact .inr hw
 · have:=List.length_pos_iff.2 hw
   left;omega
theorem b8p (t:Tx):∀ (d i:Nat) (x:LJson) (k:Nat),a5p t d i=.ok x k→Q2 d x∧k≤t.length:=by
 intro d
 induction d with
 | zero=>
  intro i x k h
  unfold a5p at h
  split at h
  · rename_i hi
    split at h
    · split at h
      · rename_i hw;cases h;exact ⟨by simp [Q2],by rcases U6 hw with h | h;exact h;cases h⟩
      · cases h
    · split at h
      · rename_i hw;cases h;exact ⟨by simp [Q2],by rcases U6 hw with h | h;exact h;cases h⟩
      · cases h
    · split at h
      · rename_i hw;cases h;exact ⟨by simp [Q2],by rcases U6 hw with h | h;exact h;cases h⟩
      · cases h
    · split at h
      · cases h
      · rename_i v k2 hq;cases h;exact ⟨by simp [Q2,(Z5 hq).1],(Z5 hq).2.2⟩
    · cases h
    · cases h
    · split at h
      · cases h
      · rename_i n k2 hq
        cases h
        unfold a30 at hq
        split at hq
        · cases hq
        · split at hq
          · rename_i hn;cases hq;exact ⟨by simp [Q2,hn],(a6n (Nat.le_of_lt hi)).2⟩
          · cases hq
  · cases h
 | succ d ih=>
  intro i x k h
  unfold a5p at h
  split at h
  · rename_i hi
    split at h
    · split at h
      · rename_i hw;cases h;exact ⟨by simp [Q2],by rcases U6 hw with h | h;exact h;cases h⟩
      · cases h
    · split at h
      · rename_i hw;cases h;exact ⟨by simp [Q2],by rcases U6 hw with h | h;exact h;cases h⟩
      · cases h
    · split at h
      · rename_i hw;cases h;exact ⟨by simp [Q2],by rcases U6 hw with h | h;exact h;cases h⟩
      · cases h
    · split at h
      · cases h
      · rename_i v k2 hq;cases h;exact ⟨by simp [Q2,(Z5 hq).1],(Z5 hq).2.2⟩
    · simp only [] at h
      obtain ⟨v,h1,rfl⟩:=b6z h
      obtain ⟨g1,g2,g3,g4⟩:=a9y ih h1
      exact ⟨.inr (.inr (.inr (.inr ⟨rfl,rfl,g2,.inl ⟨rfl,g1⟩,g3⟩))),g4⟩
    · simp only [] at h
      obtain ⟨v,h1,rfl⟩:=b6z h
      obtain ⟨g1,g2,g3,g4⟩:=a9y ih h1
      exact ⟨.inr (.inr (.inr (.inr ⟨rfl,rfl,g2,.inr ⟨rfl,g1⟩,g3⟩))),g4⟩
    · split at h
      · cases h
      · rename_i n k2 hq
        cases h
        unfold a30 at hq
        split at hq
        · cases hq
        · split at hq
          · rename_i hn;cases hq;exact ⟨by simp [Q2,hn],(a6n (Nat.le_of_lt hi)).2⟩
          · cases hq
  · cases h
theorem a6m {t:Tx} {x:LJson} {k:Nat} (h:a5e t=.ok x k):Q2 4 x:=by
 unfold a5e at h
 split at h
 · cases h
 · rename_i x' k' hx
   split at h
   · cases h;exact (b8p t 4 0 _ _ hx).1
   · cases h
end Go.KP
end
section
namespace Go.KP
def a1z (t:Tx) (i:Nat):Nat:=
 if i < t.length then match a2b (t.getD i 0) with
  | some _=>i+1
  | none=>if t.getD i 0=117∧i+5≤t.length∧t.getD (i+1) 0=48∧t.getD (i+2) 0=48 then i+5 else i+1
 else i
theorem c2c {t:Tx} {i:Nat} (h:i≤t.length):i≤a1z t i∧a1z t i≤t.length:=by
 unfold a1z
 split
 · split
   · omega
   · split<;>omega
 · omega
def O8 (t:Tx) (i:Nat):Int×Nat×Int:=match a30 t i with
 | .ok n k=>(n,k,0)
 | .err e=>(0,i,e)
def a1k (t:Tx):Nat→Nat→Tx→Tx×Nat×Int
 | 0,i,_=>([],i,3)
 | n+1,i,out=>if i < t.length then
  (if t.getD i 0=34 then (out,i+1,if 120 < out.length then 8 else 0)
   else if t.getD i 0=92 then (match a7h t (i+1) with | some (b,k)=>a1k t n k (out++[b]) | none=>([],a1z t (i+1),3))
   else if 32≤(t.getD i 0).toNat∧(t.getD i 0).toNat≤126 then a1k t n (i+1) (out++[t.getD i 0]) else ([],i+1,3))
  else ([],i,3)
theorem a9v (t:Tx):∀ n i out,b28 t n i out=if (a1k t n i out).2.2=0 then .ok (a1k t n i out).1 (a1k t n i out).2.1 else .err (a1k t n i out).2.2
 | 0,i,out=>rfl
 | n+1,i,out=>by
  unfold b28 a1k
  split
  · split
    · by_cases h:120 < out.length<;>simp [h]
    · split
      · cases a7h t (i+1) with
        | some p=>exact a9v t n p.2 _
        | none=>rfl
      · split
        · exact a9v t n _ _
        · rfl
  · rfl
theorem a9u (t:Tx):∀ n i out,i≤t.length→(a1k t n i out).2.1≤t.length∧(a1k t n i out).1.length≤out.length+n
 | 0,i,out,h=>by simp [a1k,h]
 | n+1,i,out,h=>by
  unfold a1k
  split
  · split
    · simp;omega
    · split
      · cases hj:a7h t (i+1) with
        | some p=>
         have h1:=b3a (b:=p.1) (k:=p.2) hj
         have:=a9u t n p.2 (out++[p.1]) h1.2
         simp at this ⊢;omega
        | none=>
         have:=c2c (t:=t) (i:=i+1) (by omega)
         simp;omega
      · split
        · have:=a9u t n (i+1) (out++[t.getD i 0]) (by omega)
          simp at this ⊢;omega
        · simp;omega
  · simp [h]
def O2 (t:Tx) (i:Nat):Tx×Nat×Int:=if i < t.length∧t.getD i 0=34 then a1k t (t.length+1) (i+1) [] else ([],i,3)
theorem b1t (t:Tx) (i:Nat):a02 t i=if (O2 t i).2.2=0 then .ok (O2 t i).1 (O2 t i).2.1 else .err (O2 t i).2.2:=by
 unfold a02 O2
 split
 · exact a9v t _ _ _
 · rfl
theorem a2v (t:Tx) (i:Nat) (h:i≤t.length):(O2 t i).2.1≤t.length∧(O2 t i).1.length≤t.length+1:=by
 unfold O2
 split
 · have:=a9u t (t.length+1) (i+1) [] (by omega)
   simp at this;omega
 · simp [h]
abbrev VR:=LJson×Nat×Int
def a6g (r:VR):JR LJson:=if r.2.2=0 then .ok r.1 r.2.1 else .err r.2.2
abbrev IR:=List Tx×List LJson×Nat×Int
def b4n (r:IR):JR (List Tx×List LJson):=if r.2.2.2=0 then .ok (r.1,r.2.1) r.2.2.1 else .err r.2.2.2
def a1y (g:Nat→VR) (t:Tx) (e:UInt8) (K:Nat→List Tx→List LJson→IR) (k:Nat) (ns:List Tx) (xs:List LJson):IR:=
 if (g k).2.2≠0 then (ns,xs++[(g k).1],b9 t (g k).2.1,(g k).2.2)
 else if 12 < xs.length+1 then (ns,xs++[(g k).1],b9 t (g k).2.1,6)
 else if b9 t (g k).2.1 < t.length∧t.getD (b9 t (g k).2.1) 0=e then (ns,xs++[(g k).1],b9 t (g k).2.1+1,0)
 else if b9 t (g k).2.1 < t.length∧t.getD (b9 t (g k).2.1) 0=44 then K (b9 t (g k).2.1+1) ns (xs++[(g k).1])
 else (ns,xs++[(g k).1],b9 t (g k).2.1,3)
def W9 (g:Nat→VR) (t:Tx) (obj:Bool) (e:UInt8):Nat→Nat→List Tx→List LJson→IR
 | 0,i,ns,xs=>(ns,xs,i,6)
 | n+1,i,ns,xs=>match obj with
  | false=>a1y g t e (W9 g t obj e n) (b9 t i) ns xs
  | true=>
   if (O2 t (b9 t i)).2.2≠0 then (ns++[(O2 t (b9 t i)).1],xs,b9 t (O2 t (b9 t i)).2.1,(O2 t (b9 t i)).2.2)
   else if (O2 t (b9 t i)).1∈ns then (ns++[(O2 t (b9 t i)).1],xs,b9 t (O2 t (b9 t i)).2.1,13)
   else if b9 t (O2 t (b9 t i)).2.1 < t.length∧t.getD (b9 t (O2 t (b9 t i)).2.1) 0=58 then a1y g t e (W9 g t obj e n) (b9 t (O2 t (b9 t i)).2.1+1) (ns++[(O2 t (b9 t i)).1]) xs
   else (ns++[(O2 t (b9 t i)).1],xs,b9 t (O2 t (b9 t i)).2.1,3)
def a1i (g:Nat→VR) (t:Tx) (obj:Bool) (e:UInt8) (i:Nat):IR:=
 if b9 t i < t.length∧t.getD (b9 t i) 0=e then ([],[],b9 t i+1,0) else W9 g t obj e 13 (b9 t i) [] []
theorem b8t {V:Nat→JR LJson} {g:Nat→VR} {t:Tx} {e:UInt8} {K:Nat→List Tx→List LJson→JR (List Tx×List LJson)} {K':Nat→List Tx→List LJson→IR} (k:Nat) (hV:V k=a6g (g k)) (hK:∀ i ns xs,i≤t.length→K i ns xs=b4n (K' i ns xs)) (ns:List Tx) (xs:List LJson) :
 a71 V t e K k ns xs=b4n (a1y g t e K' k ns xs):=by
 unfold a71 a1y
 rw [hV]
 unfold a6g
 by_cases h0:(g k).2.2=0
 · simp only [h0,if_true,ne_eq,not_true,if_false]
   split
   · rfl
   · split
     · rfl
     · split
       · rename_i h;exact hK _ _ _ (by omega)
       · rfl
 · simp only [h0,if_false,ne_eq,not_false_eq_true,if_true]
   unfold b4n
   simp only [h0,if_false]
theorem a9x {V:Nat→JR LJson} {g:Nat→VR} {t:Tx} {obj:Bool} {e:UInt8} (hV:∀ k,k≤t.length→V k=a6g (g k)):∀ (n i:Nat) (ns:List Tx) (xs:List LJson),i≤t.length→a2k V t obj e n i ns xs=b4n (W9 g t obj e n i ns xs)
 | 0,i,ns,xs,_=>rfl
 | n+1,i,ns,xs,hi=>by
  unfold a2k W9
  have h1:=Q1 hi
  cases obj with
  | false=>exact b8t _ (hV _ h1) (fun i ns xs hi=>a9x hV n i ns xs hi) _ _
  | true=>
   simp only []
   have h2:=(a2v t _ h1).1
   have h3:=Q1 h2
   rw [b1t]
   by_cases h0:(O2 t (b9 t i)).2.2=0
   · simp only [h0,if_true,ne_eq,not_true,if_false]
     split
     · rfl
     · split
       · rename_i h;exact b8t _ (hV _ (by omega)) (fun i ns xs hi=>a9x hV n i ns xs hi) _ _
       · rfl
   · simp only [h0,if_false,ne_eq,not_false_eq_true,if_true]
     unfold b4n
     simp only [h0,if_false]
theorem jlist_R {V:Nat→JR LJson} {g:Nat→VR} {t:Tx} {obj:Bool} {e:UInt8} (hV:∀ k,k≤t.length→V k=a6g (g k)) {i:Nat} (hi:i≤t.length):a5f V t obj e i=b4n (a1i g t obj e i):=by
 unfold a5f a1i
 split
 · rfl
 · exact a9x hV _ _ _ _ (Q1 hi)
theorem b1y {g:Nat→VR} {t:Tx} {e:UInt8} {K':Nat→List Tx→List LJson→IR} (k:Nat) (hg:(g k).2.1≤t.length) (hK:∀ i ns xs,i≤t.length→(K' i ns xs).2.2.1≤t.length) (ns:List Tx) (xs:List LJson):(a1y g t e K' k ns xs).2.2.1≤t.length:=by
 have:=Q1 hg
 unfold a1y
 split
 · exact this
 · split
   · exact this
   · split
     · simp only [];omega
     · split
       · exact hK _ _ _ (by omega)
       · exact this
theorem a5q {g:Nat→VR} {t:Tx} {obj:Bool} {e:UInt8} (hg:∀ k,k≤t.length→(g k).2.1≤t.length):∀ (n i:Nat) (ns:List Tx) (xs:List LJson),i≤t.length→(W9 g t obj e n i ns xs).2.2.1≤t.length
 | 0,i,ns,xs,h=>h
 | n+1,i,ns,xs,hi=>by
  unfold W9
  have h1:=Q1 hi
  cases obj with
  | false=>exact b1y _ (hg _ h1) (fun i ns xs hi=>a5q hg n i ns xs hi) _ _
  | true=>
   simp only []
   have h2:=(a2v t _ h1).1
   have h3:=Q1 h2
   split
   · exact h3
   · split
     · exact h3
     · split
       · exact b1y _ (hg _ (by omega)) (fun i ns xs hi=>a5q hg n i ns xs hi) _ _
       · exact h3
theorem b1x {g:Nat→VR} {t:Tx} {obj:Bool} {e:UInt8} (hg:∀ k,k≤t.length→(g k).2.1≤t.length) {i:Nat} (hi:i≤t.length):(a1i g t obj e i).2.2.1≤t.length:=by
 unfold a1i
 split
 · simp only [];omega
 · exact a5q hg _ _ _ _ (Q1 hi)
def W1 (g:Nat→VR) (t:Tx) (e:UInt8) (k n:Nat):Bool×Nat×Int:=
 if (g k).2.2≠0 then (false,b9 t (g k).2.1,(g k).2.2)
 else if 12 < n+1 then (false,b9 t (g k).2.1,6)
 else if b9 t (g k).2.1 < t.length∧t.getD (b9 t (g k).2.1) 0=e then (true,b9 t (g k).2.1+1,0)
 else if b9 t (g k).2.1 < t.length∧t.getD (b9 t (g k).2.1) 0=44 then (false,b9 t (g k).2.1+1,0)
 else (false,b9 t (g k).2.1,3)
theorem c2b (g:Nat→VR) (t:Tx) (e:UInt8) (K:Nat→List Tx→List LJson→IR) (k:Nat) (ns:List Tx) (xs:List LJson) :
 a1y g t e K k ns xs=if (W1 g t e k xs.length).1=false∧(W1 g t e k xs.length).2.2=0 then K (W1 g t e k xs.length).2.1 ns (xs++[(g k).1]) else (ns,xs++[(g k).1],(W1 g t e k xs.length).2):=by
 unfold a1y W1
 split
 · rename_i h;simp [h]
 · split
   · simp
   · split
     · simp
     · split<;>simp
def a2l (t:Tx) (k:Nat) (ns:List Tx):Nat×Int:=
 if (O2 t k).2.2≠0 then (b9 t (O2 t k).2.1,(O2 t k).2.2)
 else if (O2 t k).1∈ns then (b9 t (O2 t k).2.1,13)
 else if b9 t (O2 t k).2.1 < t.length∧t.getD (b9 t (O2 t k).2.1) 0=58 then (b9 t (O2 t k).2.1+1,0)
 else (b9 t (O2 t k).2.1,3)
theorem b9y (g:Nat→VR) (t:Tx) (obj:Bool) (e:UInt8) (n i:Nat) (ns:List Tx) (xs:List LJson):W9 g t obj e (n+1) i ns xs=match obj with
 | false=>a1y g t e (W9 g t obj e n) (b9 t i) ns xs
 | true=>if (a2l t (b9 t i) ns).2=0 then a1y g t e (W9 g t obj e n) (a2l t (b9 t i) ns).1 (ns++[(O2 t (b9 t i)).1]) xs else (ns++[(O2 t (b9 t i)).1],xs,a2l t (b9 t i) ns):=by
 conv=>lhs;unfold W9
 cases obj with
 | false=>rfl
 | true=>
  simp only []
  unfold a2l
  split
  · rename_i h;simp [h]
  · split
    · simp
    · split<;>simp
theorem b91 {g:Nat→VR} {t:Tx} {e:UInt8} {k n:Nat} (hg:(g k).2.1≤t.length):(W1 g t e k n).2.1≤t.length:=by
 have:=Q1 hg
 unfold W1
 split
 · exact this
 · split
   · exact this
   · split
     · simp only [];omega
     · split
       · simp only [];omega
       · exact this
theorem b9z {t:Tx} {k:Nat} {ns:List Tx} (h:k≤t.length):(a2l t k ns).1≤t.length:=by
 have:=Q1 (a2v t k h).1
 unfold a2l
 split
 · exact this
 · split
   · exact this
   · split
     · simp only [];omega
     · exact this
theorem b29 {g:Nat→VR} {t:Tx} {e:UInt8} {k n:Nat} (h:(W1 g t e k n).2.2=0):n+1≤12:=by
 unfold W1 at h
 split at h
 · rename_i h1;exact absurd h h1
 · split at h
   · simp at h
   · omega
def b09 (t:Tx) (L:Bool→Nat→IR) (i:Nat):VR:=if b9 t i < t.length then
 (match t.getD (b9 t i) 0 with
  | 110=>if M7 t jnull (b9 t i) then (.mk 1 0 [] [] [],b9 t i+4,0) else (.mk 1 0 [] [] [],b9 t i,3)
  | 116=>if M7 t jtrue (b9 t i) then (.mk 2 1 [] [] [],b9 t i+4,0) else (.mk 2 1 [] [] [],b9 t i,3)
  | 102=>if M7 t jfalse (b9 t i) then (.mk 2 0 [] [] [],b9 t i+5,0) else (.mk 2 0 [] [] [],b9 t i,3)
  | 34=>(.mk 4 0 (O2 t (b9 t i)).1 [] [],(O2 t (b9 t i)).2.1,(O2 t (b9 t i)).2.2)
  | 91=>(.mk 5 0 [] (L false (b9 t i)).1 (L false (b9 t i)).2.1,(L false (b9 t i)).2.2.1,(L false (b9 t i)).2.2.2)
  | 123=>(.mk 6 0 [] (L true (b9 t i)).1 (L true (b9 t i)).2.1,(L true (b9 t i)).2.2.1,(L true (b9 t i)).2.2.2)
  | _=>(.mk 3 (O8 t (b9 t i)).1 [] [] [],(O8 t (b9 t i)).2.1,(O8 t (b9 t i)).2.2))
 else (.mk 0 0 [] [] [],b9 t i,3)
def b7i (obj:Bool):UInt8:=if obj then 125 else 93
def L0 (obj:Bool) (i:Nat):IR:=([],[],i,12)
def L1 (g:Nat→VR) (t:Tx) (obj:Bool) (i:Nat):IR:=a1i g t obj (b7i obj) (i+1)
def a2w (t:Tx):Nat→Nat→VR
 | 0=>b09 t L0
 | d+1=>b09 t (L1 (a2w t d) t)
theorem b6x (t:Tx) (i:Nat):a30 t i=if (O8 t i).2.2=0 then .ok (O8 t i).1 (O8 t i).2.1 else .err (O8 t i).2.2:=by
 unfold O8
 cases h:a30 t i with
 | ok n k=>simp
 | err e=>
  have he:e≠0:=by
   unfold a30 at h
   split at h
   · cases h;decide
   · split at h
     · cases h
     · cases h;decide
  simp [he]
theorem b6y {t:Tx} {i:Nat} (h:i≤t.length):(O8 t i).2.1≤t.length:=by
 unfold O8
 cases hj:a30 t i with
 | ok n k=>
  unfold a30 at hj
  split at hj
  · cases hj
  · split at hj
    · cases hj;exact (a6n h).2
    · cases hj
 | err e=>exact h
theorem b3i {t:Tx} {L:Bool→Nat→IR} (hL:∀ o k,k < t.length→(L o k).2.2.1≤t.length) {i:Nat} (hi:i≤t.length):(b09 t L i).2.1≤t.length:=by
 have h1:=Q1 hi
 unfold b09
 split
 · rename_i hlt
   split
   · split
     · rename_i hw
       have:=U6 hw
       have e:jnull.length=4:=rfl
       simp only []
       rcases this with h | h
       · omega
       · cases h
     · exact h1
   · split
     · rename_i hw
       have:=U6 hw
       have e:jtrue.length=4:=rfl
       simp only []
       rcases this with h | h
       · omega
       · cases h
     · exact h1
   · split
     · rename_i hw
       have:=U6 hw
       have e:jfalse.length=5:=rfl
       simp only []
       rcases this with h | h
       · omega
       · cases h
     · exact h1
   · exact (a2v t _ h1).1
   · exact hL _ _ hlt
   · exact hL _ _ hlt
   · exact b6y h1
 · exact h1
theorem b49 (t:Tx):∀ d i,i≤t.length→(a2w t d i).2.1≤t.length
 | 0,i,hi=>b3i (fun o k hk=>Nat.le_of_lt hk) hi
 | d+1,i,hi=>b3i (fun o k hk=>b1x (fun k hk=>b49 t d k hk) hk) hi
def b8s (t:Tx) (d:Nat) (o:Bool) (k:Nat):JR LJson:=match d with
 | 0=>.err 12
 | d'+1=>jmk (if o then 6 else 5) (a5f (a5p t d') t o (b7i o) (k+1))
theorem jmk_of (k:Int) (r:IR):jmk k (b4n r)=a6g (.mk k 0 [] r.1 r.2.1,r.2.2.1,r.2.2.2):=by
 unfold b4n a6g
 by_cases h:r.2.2.2=0
 · rw [if_pos h,if_pos h];rfl
 · rw [if_neg h,if_neg h];rfl
theorem b9w (t:Tx) (d i:Nat):a5p t d i=if b9 t i < t.length then
 (match t.getD (b9 t i) 0 with
  | 110=>if M7 t jnull (b9 t i) then .ok (.mk 1 0 [] [] []) (b9 t i+4) else .err 3
  | 116=>if M7 t jtrue (b9 t i) then .ok (.mk 2 1 [] [] []) (b9 t i+4) else .err 3
  | 102=>if M7 t jfalse (b9 t i) then .ok (.mk 2 0 [] [] []) (b9 t i+5) else .err 3
  | 34=>(match a02 t (b9 t i) with | .err c=>.err c | .ok v k=>.ok (.mk 4 0 v [] []) k)
  | 91=>b8s t d false (b9 t i)
  | 123=>b8s t d true (b9 t i)
  | _=>(match a30 t (b9 t i) with | .err c=>.err c | .ok n k=>.ok (.mk 3 n [] [] []) k))
 else .err 3:=by
 cases d<;>(conv=>lhs;unfold a5p)<;>rfl
theorem c18 (t:Tx) (k:Nat):(match a02 t k with | .err c=>.err c | .ok v k=>.ok (.mk 4 0 v [] []) k)=a6g (.mk 4 0 (O2 t k).1 [] [],(O2 t k).2.1,(O2 t k).2.2):=by
 rw [b1t]
 unfold a6g
 by_cases h:(O2 t k).2.2=0
 · simp [h]
 · simp [h]
theorem c19 (t:Tx) (k:Nat):(match a30 t k with | .err c=>.err c | .ok n k=>.ok (.mk 3 n [] [] []) k)=a6g (.mk 3 (O8 t k).1 [] [] [],(O8 t k).2.1,(O8 t k).2.2):=by
 rw [b6x]
 unfold a6g
 by_cases h:(O8 t k).2.2=0
 · simp [h]
 · simp [h]
theorem b83 {t:Tx} {L:Bool→Nat→IR} {d i:Nat} (hn:∀ o k,k < t.length→b8s t d o k=a6g (.mk (if o then 6 else 5) 0 [] (L o k).1 (L o k).2.1,(L o k).2.2.1,(L o k).2.2.2)):a5p t d i=a6g (b09 t L i):=by
 rw [b9w]
 unfold b09
 split
 · rename_i hlt
   split
   · split<;>rfl
   · split<;>rfl
   · split<;>rfl
   · exact c18 t _
   · exact hn false _ hlt
   · exact hn true _ hlt
   · exact c19 t _
 · rfl
theorem b48 (t:Tx):∀ d i,i≤t.length→a5p t d i=a6g (a2w t d i)
 | 0,i,hi=>b83 fun o k hk=>rfl
 | d+1,i,hi=>b83 fun o k hk=>by
  unfold b8s
  simp only []
  rw [jlist_R (fun k hk=>b48 t d k hk) hk]
  exact jmk_of _ _
def Q0 (t:Tx):LJson×Int:=match a5e t with
 | .ok x _=>(x,0)
 | .err c=>(.mk 0 0 [] [] [],c)
theorem b9k (t:Tx):Q0 t=if (a2w t 4 0).2.2=0 then (if b9 t (a2w t 4 0).2.1=t.length then ((a2w t 4 0).1,0) else (.mk 0 0 [] [] [],3)) else (.mk 0 0 [] [] [],(a2w t 4 0).2.2):=by
 unfold Q0 a5e
 rw [b48 t 4 0 (Nat.zero_le _)]
 unfold a6g
 by_cases h:(a2w t 4 0).2.2=0
 · rw [if_pos h,if_pos h]
   simp only []
   by_cases h2:b9 t (a2w t 4 0).2.1=t.length
   · rw [if_pos h2,if_pos h2]
   · rw [if_neg h2,if_neg h2]
 · rw [if_neg h,if_neg h]
end Go.KP
end
section
namespace Go.KP
inductive JZ (α:Type) where
 | err (c:Int) (z:Nat)
 | ok (v:α) (i:Nat)
def JZ.jr {α:Type}:JZ α→JR α
 | .err c _=>.err c
 | .ok v i=>.ok v i
theorem a0g (t w:Tx) (i:Nat):w.isPrefixOf (t.drop i)=M7 t w i:=by
 unfold M7
 rw [Bool.eq_iff_iff,decide_eq_true_eq,List.isPrefixOf_iff_prefix,List.prefix_iff_eq_take,List.take_drop]
 exact eq_comm
theorem a7g (t:Tx) (c:UInt8) (i:Nat):M7 t [c] i=decide (i < t.length∧t.getD i 0=c):=by
 rw [← a0g,Bool.eq_iff_iff,decide_eq_true_eq,List.isPrefixOf_iff_prefix]
 by_cases h:i < t.length
 · rw [List.drop_eq_getElem_cons h,List.cons_prefix_cons]
   have e:t.getD i 0=t[i]:=by simp [h]
   rw [e]
   constructor
   · rintro ⟨e,_⟩;exact ⟨h,e.symm⟩
   · rintro ⟨_,e⟩;exact ⟨e.symm,List.nil_prefix⟩
 · rw [List.drop_eq_nil_of_le (by omega)]
   constructor
   · intro hp
     have:=hp.length_le
     simp at this
   · rintro ⟨h1,_⟩;exact absurd h1 h
theorem Z4 {t:Tx} {c:UInt8} {w:Tx} {i:Nat} (h:M7 t (c :: w) i=true):i < t.length∧t.getD i 0=c:=by
 rw [← a0g,List.isPrefixOf_iff_prefix] at h
 by_cases hi:i < t.length
 · rw [List.drop_eq_getElem_cons hi,List.cons_prefix_cons] at h
   exact ⟨hi,by simp [hi,h.1]⟩
 · rw [List.drop_eq_nil_of_le (by omega)] at h
   have:=h.length_le
   simp at this
def a1h (t:Tx) (i:Nat):JZ Nat:=if i < t.length then (match a10 (t.getD i 0) with | some n=>.ok n (i+1) | none=>.err 3 (i+1)) else .err 3 i
def c1i (t:Tx) (i:Nat):JZ UInt8:=if i < t.length then (match a2b (t.getD i 0) with
 | some b=>.ok b (i+1)
 | none=>if t.getD i 0=117 then (if M7 t [48,48] (i+1) then (match a1h t (i+3) with
  | .err c z=>.err c z
  | .ok a k=>match a1h t k with
   | .err c z=>.err c z
   | .ok b k=>.ok (UInt8.ofNat (16*a+b)) k)
  else .err 3 (i+1)) else .err 3 (i+1))
 else .err 3 i
theorem a4p {t:Tx} {i a k:Nat} (h:a1h t i=.ok a k):i < t.length∧k=i+1∧a10 (t.getD i 0)=some a:=by
 unfold a1h at h
 split at h
 · rename_i hi
   split at h
   · rename_i n hn;cases h;exact ⟨hi,rfl,hn⟩
   · cases h
 · cases h
theorem a9d {t:Tx} {i:Nat} {c:Int} {z:Nat} (h:a1h t i=.err c z):c=3∧(i < t.length→a10 (t.getD i 0)=none):=by
 unfold a1h at h
 split at h
 · split at h
   · cases h
   · rename_i hn;cases h;exact ⟨rfl,fun _=>hn⟩
 · rename_i hi;cases h;exact ⟨rfl,fun h=>absurd h hi⟩
theorem a9t (t:Tx) (i:Nat):M7 t [48,48] i=true↔i+1 < t.length∧t.getD i 0=48∧t.getD (i+1) 0=48:=by
 rw [← a0g,List.isPrefixOf_iff_prefix]
 by_cases h:i+1 < t.length
 · rw [List.drop_eq_getElem_cons (by omega:i < t.length),List.drop_eq_getElem_cons h,List.cons_prefix_cons,List.cons_prefix_cons]
   have e:t.getD i 0=t[i]:=by simp [show i < t.length by omega]
   have e2:t.getD (i+1) 0=t[i+1]:=by simp [h]
   rw [e,e2]
   constructor
   · rintro ⟨e,e',_⟩;exact ⟨h,e.symm,e'.symm⟩
   · rintro ⟨_,e,e'⟩;exact ⟨e.symm,e'.symm,List.nil_prefix⟩
 · constructor
   · intro hp
     have:=hp.length_le
     simp at this;omega
   · rintro ⟨h1,_⟩;exact absurd h1 h
theorem b9m (t:Tx) (i:Nat):match c1i t i with | .ok b k=>a7h t i=some (b,k) | .err c _=>c=3∧a7h t i=none:=by
 unfold c1i a7h
 by_cases hi:i < t.length
 · rw [if_pos hi,if_pos hi]
   cases h1:a2b (t.getD i 0) with
   | some b=>simp only []
   | none=>
    simp only []
    by_cases hu:t.getD i 0=117
    · rw [if_pos hu]
      by_cases hw:M7 t [48,48] (i+1)=true
      · rw [if_pos hw]
        obtain ⟨w1,w2,w3⟩:=(a9t _ _).1 hw
        cases ha:a1h t (i+3) with
        | err c z=>
         obtain ⟨e1,e2⟩:=a9d ha
         simp only []
         refine ⟨e1,?_⟩
         by_cases hc:t.getD i 0=117∧i+5≤t.length∧t.getD (i+1) 0=48∧t.getD (i+2) 0=48
         · rw [if_pos hc,e2 (by omega)]
         · rw [if_neg hc]
        | ok a k=>
         obtain ⟨a1,rfl,a3⟩:=a4p ha
         simp only []
         cases hb:a1h t (i+3+1) with
         | err c z=>
          obtain ⟨e1,e2⟩:=a9d hb
          simp only []
          refine ⟨e1,?_⟩
          by_cases hc:t.getD i 0=117∧i+5≤t.length∧t.getD (i+1) 0=48∧t.getD (i+2) 0=48
          · rw [if_pos hc,a3,e2 (by omega)]
          · rw [if_neg hc]
         | ok b k=>
          obtain ⟨b1,rfl,b3⟩:=a4p hb
          simp only []
          rw [if_pos ⟨hu,by omega,w2,w3⟩,a3,b3]
      · rw [if_neg hw]
        refine ⟨rfl,?_⟩
        rw [if_neg]
        rintro ⟨_,c1,c2,c3⟩
        exact hw ((a9t _ _).2 ⟨by omega,c2,c3⟩)
    · rw [if_neg hu]
      exact ⟨rfl,by rw [if_neg fun h=>hu h.1]⟩
 · rw [if_neg hi,if_neg hi];exact ⟨rfl,rfl⟩
def b0x (t:Tx):Nat→Nat→Tx→JZ Tx
 | 0,i,_=>.err 3 i
 | n+1,i,out=>if i < t.length then
  (if t.getD i 0=34 then (if 120 < out.length then .err 8 (i+1) else .ok out (i+1))
   else if t.getD i 0=92 then (match c1i t (i+1) with | .ok b k=>b0x t n k (out++[b]) | .err c z=>.err c z)
   else if 32≤(t.getD i 0).toNat∧(t.getD i 0).toNat≤126 then b0x t n (i+1) (out++[t.getD i 0]) else .err 3 (i+1))
  else .err 3 i
theorem b2o (t:Tx):∀ n i out,(b0x t n i out).jr=b28 t n i out
 | 0,i,out=>rfl
 | n+1,i,out=>by
  unfold b0x b28
  by_cases hi:i < t.length
  · rw [if_pos hi,if_pos hi]
    by_cases h34:t.getD i 0=34
    · rw [if_pos h34,if_pos h34]
      by_cases h120:120 < out.length
      · rw [if_pos h120,if_pos h120];rfl
      · rw [if_neg h120,if_neg h120];rfl
    · rw [if_neg h34,if_neg h34]
      by_cases h92:t.getD i 0=92
      · rw [if_pos h92,if_pos h92]
        have he:=b9m t (i+1)
        cases hp:c1i t (i+1) with
        | err c z=>rw [hp] at he;simp only [] at he;rw [he.2,he.1];rfl
        | ok b k=>rw [hp] at he;simp only [] at he;rw [he];exact b2o t n k _
      · rw [if_neg h92,if_neg h92]
        by_cases hr:32≤(t.getD i 0).toNat∧(t.getD i 0).toNat≤126
        · rw [if_pos hr,if_pos hr];exact b2o t n _ _
        · rw [if_neg hr,if_neg hr];rfl
  · rw [if_neg hi,if_neg hi];rfl
def Y0 (t:Tx) (i:Nat):JZ Tx:=if M7 t [34] i then b0x t (t.length+1) (i+1) [] else .err 3 i
theorem a25 (t:Tx) (i:Nat):(Y0 t i).jr=a02 t i:=by
 unfold Y0 a02
 rw [a7g]
 by_cases h:i < t.length∧t.getD i 0=34
 · rw [if_pos h,if_pos (decide_eq_true h)];exact b2o t _ _ _
 · rw [if_neg h,if_neg (by rw [decide_eq_false h];exact Bool.false_ne_true)];rfl
def b0y (t:Tx) (i:Nat):JZ Int:=match S6 ((t.take (a0p t i)).drop i) with
 | none=>.err 3 (a0p t i)
 | some n=>if -999999999≤n∧n≤999999999 then .ok n (a0p t i) else .err 4 (a0p t i)
theorem a6d (t:Tx) (i:Nat):(b0y t i).jr=a30 t i:=by
 unfold b0y a30
 cases S6 ((t.take (a0p t i)).drop i) with
 | none=>rfl
 | some n=>
  simp only []
  split<;>rfl
def b1l (V:Nat→JZ LJson) (t:Tx) (e:UInt8) (K:Nat→List Tx→List LJson→JZ (List Tx×List LJson)) (k:Nat) (ns:List Tx) (xs:List LJson):JZ (List Tx×List LJson):=match V k with
 | .err c z=>.err c z
 | .ok x k=>if 12 < xs.length+1 then .err 6 k else
  if M7 t [e] (b9 t k) then .ok (ns,xs++[x]) (b9 t k+1)
  else if M7 t [44] (b9 t k) then K (b9 t k+1) ns (xs++[x]) else .err 3 (b9 t k)
def a7v (t:Tx) (i:Nat) (ns:List Tx):JZ Tx:=match Y0 t i with
 | .err c z=>.err c z
 | .ok nm k=>if nm∈ns then .err 13 k else if M7 t [58] (b9 t k) then .ok nm (b9 t k+1) else .err 3 (b9 t k)
def a5n (V:Nat→JZ LJson) (t:Tx) (obj:Bool) (e:UInt8):Nat→Nat→List Tx→List LJson→JZ (List Tx×List LJson)
 | 0,i,_,_=>.err 6 i
 | n+1,i,ns,xs=>match obj with
  | false=>b1l V t e (a5n V t obj e n) (b9 t i) ns xs
  | true=>match a7v t (b9 t i) ns with
   | .err c z=>.err c z
   | .ok nm k=>b1l V t e (a5n V t obj e n) k (ns++[nm]) xs
def a7w (V:Nat→JZ LJson) (t:Tx) (obj:Bool) (e:UInt8) (i:Nat):JZ (List Tx×List LJson):=
 if M7 t [e] (b9 t i) then .ok ([],[]) (b9 t i+1) else a5n V t obj e 13 (b9 t i) [] []
def pmk (k:Int):JZ (List Tx×List LJson)→JZ LJson
 | .err c z=>.err c z
 | .ok v i=>.ok (.mk k 0 [] v.1 v.2) i
theorem a4w {α:Type} (t:Tx) (e:UInt8) (i:Nat) (a b:α):(if M7 t [e] i=true then a else b)=if i < t.length∧t.getD i 0=e then a else b:=by
 rw [a7g]
 by_cases h:i < t.length∧t.getD i 0=e
 · rw [if_pos h,if_pos (decide_eq_true h)]
 · rw [if_neg h,if_neg (by rw [decide_eq_false h];exact Bool.false_ne_true)]
theorem b4k {V:Nat→JZ LJson} {W:Nat→JR LJson} (hV:∀ i,(V i).jr=W i) {t:Tx} {e:UInt8} {K:Nat→List Tx→List LJson→JZ (List Tx×List LJson)} {K':Nat→List Tx→List LJson→JR (List Tx×List LJson)} (hK:∀ i ns xs,(K i ns xs).jr=K' i ns xs) (k:Nat) (ns:List Tx) (xs:List LJson) :
 (b1l V t e K k ns xs).jr=a71 W t e K' k ns xs:=by
 unfold b1l a71
 rw [← hV]
 cases V k with
 | err c z=>rfl
 | ok x k=>
  have hr:∀ (p:Prop) [Decidable p] (a b:JZ (List Tx×List LJson)),(if p then a else b).jr=if p then a.jr else b.jr:=fun p _ a b=>by split<;>rfl
  simp only [a4w,hr,hK]
  rfl
theorem a66 {V:Nat→JZ LJson} {W:Nat→JR LJson} (hV:∀ i,(V i).jr=W i) (t:Tx) (obj:Bool) (e:UInt8):∀ n i ns xs,(a5n V t obj e n i ns xs).jr=a2k W t obj e n i ns xs
 | 0,i,ns,xs=>rfl
 | n+1,i,ns,xs=>by
  unfold a5n a2k
  cases obj with
  | false=>exact b4k hV (a66 hV t false e n) _ _ _
  | true=>
   simp only []
   unfold a7v
   rw [← a25]
   cases Y0 t (b9 t i) with
   | err c z=>rfl
   | ok nm k=>
    have hr:∀ (p:Prop) [Decidable p] (a b:JZ Tx),(if p then a else b).jr=if p then a.jr else b.jr:=fun p _ a b=>by split<;>rfl
    simp only [a4w]
    show JZ.jr _=if nm∈ns then _ else _
    by_cases hm:nm∈ns
    · rw [if_pos hm,if_pos hm];rfl
    · rw [if_neg hm,if_neg hm]
      by_cases h5:b9 t k < t.length∧t.getD (b9 t k) 0=58
      · rw [if_pos h5,if_pos h5]
        exact b4k hV (a66 hV t true e n) _ _ _
      · rw [if_neg h5,if_neg h5];rfl
theorem b4j {V:Nat→JZ LJson} {W:Nat→JR LJson} (hV:∀ i,(V i).jr=W i) (t:Tx) (obj:Bool) (e:UInt8) (i:Nat):(a7w V t obj e i).jr=a5f W t obj e i:=by
 unfold a7w a5f
 rw [a4w]
 split
 · rfl
 · exact a66 hV t obj e _ _ _ _
theorem b6h (k:Int) (r:JZ (List Tx×List LJson)):(pmk k r).jr=jmk k r.jr:=by cases r<;>rfl
def a5m (t:Tx):Nat→Nat→JZ LJson
 | d,i=>if M7 t jnull (b9 t i) then .ok (.mk 1 0 [] [] []) (b9 t i+4)
  else if M7 t jtrue (b9 t i) then .ok (.mk 2 1 [] [] []) (b9 t i+4)
  else if M7 t jfalse (b9 t i) then .ok (.mk 2 0 [] [] []) (b9 t i+5)
  else if M7 t [91] (b9 t i) then (match d with | 0=>.err 12 (b9 t i+1) | d+1=>pmk 5 (a7w (a5m t d) t false 93 (b9 t i+1)))
  else if M7 t [123] (b9 t i) then (match d with | 0=>.err 12 (b9 t i+1) | d+1=>pmk 6 (a7w (a5m t d) t true 125 (b9 t i+1)))
  else if M7 t [34] (b9 t i) then (match Y0 t (b9 t i) with | .err c z=>.err c z | .ok v k=>.ok (.mk 4 0 v [] []) k)
  else (match b0y t (b9 t i) with | .err c z=>.err c z | .ok n k=>.ok (.mk 3 n [] [] []) k)
theorem b8r {t:Tx} {i:Nat} (h:i < t.length→t.getD i 0≠45∧Q8 (t.getD i 0)=false):a30 t i=.err 3:=by
 have hs:a08 t i=i:=by
  unfold a08
  rw [if_neg]
  rintro ⟨h1,h2⟩
  exact (h h1).1 h2
 have he:a0p t i=i:=by
  unfold a0p
  rw [hs]
  by_cases hi:i < t.length
  · have h2:=(h hi).2
    have e:t.getD i 0=t[i]:=by simp [hi]
    rw [e] at h2
    exact a9z hi h2
  · exact a7i (by omega)
 unfold a30
 rw [he,show (t.take i).drop i=[] from List.drop_eq_nil_of_le (by simp;omega)]
 rfl
theorem b4w {t:Tx} {c x:UInt8} {w:Tx} {i:Nat} (hx:t.getD i 0=x) (h:x≠c):M7 t (c :: w) i=false:=by
 cases hj:M7 t (c :: w) i with
 | false=>rfl
 | true=>exact absurd (hx ▸ (Z4 hj).2) h
theorem b8a (t:Tx):∀ d i,(a5m t d i).jr=a5p t d i:=by
 have step:∀ d,(∀ o e,match d with | 0=>True | d+1=>∀ i,(a7w (a5m t d) t o e i).jr=a5f (a5p t d) t o e i)→∀ i,(a5m t d i).jr=a5p t d i:=by
  intro d hd i
  unfold a5m a5p
  obtain ⟨k,hk⟩:∃ k,b9 t i=k:=⟨_,rfl⟩
  rw [hk]
  have hnum:∀ (r:JZ Int),(match r with | .err c z=>(.err c z:JZ LJson) | .ok n k=>.ok (.mk 3 n [] [] []) k).jr=match r.jr with | .err c=>.err c | .ok n k=>.ok (.mk 3 n [] [] []) k:=fun r=>by cases r<;>rfl
  by_cases hi:k < t.length
  · rw [if_pos hi]
    obtain ⟨x,hx⟩:∃ x,t.getD k 0=x:=⟨_,rfl⟩
    have o:∀ (c:UInt8) (w:Tx),x≠c→(M7 t (c :: w) k=true)=False:=fun c w h=>by rw [b4w hx h];simp
    have w1:∀ c:UInt8,x=c→(M7 t [c] k=true)=True:=fun c h=>by rw [a7g,decide_eq_true ⟨hi,hx.trans h⟩];simp
    have no:(x≠45∧Q8 x=false)→(match a30 t k with | .err c=>(.err c:JR LJson) | .ok n k=>.ok (.mk 3 n [] [] []) k)=.err 3:=fun h=>by rw [b8r fun _=>by rw [hx];exact h]
    rw [hx]
    by_cases c1:x=110
    · subst c1
      simp only [jnull,jtrue,jfalse,o 116 [114,117,101] (by decide),o 102 [97,108,115,101] (by decide),o 91 [] (by decide),o 123 [] (by decide),o 34 [] (by decide),if_false]
      by_cases hj:M7 t [110,117,108,108] k=true
      · simp only [hj,if_true];rfl
      · simp only [hj,Bool.false_eq_true,if_false];rw [hnum,a6d,no (by decide)]
    by_cases c2:x=116
    · subst c2
      simp only [jnull,jtrue,jfalse,o 110 [117,108,108] (by decide),o 102 [97,108,115,101] (by decide),o 91 [] (by decide),o 123 [] (by decide),o 34 [] (by decide),if_false]
      by_cases hj:M7 t [116,114,117,101] k=true
      · simp only [hj,if_true];rfl
      · simp only [hj,Bool.false_eq_true,if_false];rw [hnum,a6d,no (by decide)]
    by_cases c3:x=102
    · subst c3
      simp only [jnull,jtrue,jfalse,o 110 [117,108,108] (by decide),o 116 [114,117,101] (by decide),o 91 [] (by decide),o 123 [] (by decide),o 34 [] (by decide),if_false]
      by_cases hj:M7 t [102,97,108,115,101] k=true
      · simp only [hj,if_true];rfl
      · simp only [hj,Bool.false_eq_true,if_false];rw [hnum,a6d,no (by decide)]
    simp only [jnull,jtrue,jfalse,o 110 [117,108,108] c1,o 116 [114,117,101] c2,o 102 [97,108,115,101] c3,if_false]
    by_cases c4:x=34
    · subst c4
      simp only [o 91 [] (by decide),o 123 [] (by decide),w1 34 rfl,if_false,if_true]
      rw [← a25]
      cases Y0 t k<;>rfl
    by_cases c5:x=91
    · subst c5
      simp only [w1 91 rfl,if_true]
      cases d with
      | zero=>rfl
      | succ d=>
       simp only []
       rw [b6h,hd]
    by_cases c6:x=123
    · subst c6
      simp only [o 91 [] (by decide),w1 123 rfl,if_false,if_true]
      cases d with
      | zero=>rfl
      | succ d=>
       simp only []
       rw [b6h,hd]
    simp only [o 91 [] c5,o 123 [] c6,o 34 [] c4,if_false]
    rw [hnum,a6d]
    all_goals rfl
  · rw [if_neg hi]
    have o:∀ (c:UInt8) (w:Tx),(M7 t (c :: w) k=true)=False:=fun c w=>by
     cases hj:M7 t (c :: w) k with
     | false=>simp
     | true=>exact absurd (Z4 hj).1 hi
    simp only [jnull,jtrue,jfalse,o,if_false]
    rw [hnum,a6d,b8r fun h=>absurd h hi]
 intro d
 induction d with
 | zero=>exact step 0 (fun o e=>trivial)
 | succ d ih=>exact step (d+1) (fun o e i=>b4j ih t o e i)
end Go.KP
end
section
namespace Go.KP
mutual
def jtx:LJson→Tx
 | .mk k n t ns is=>if k=1 then jnull else if k=2 then (if n=1 then jtrue else jfalse) else if k=3 then a1w n else if k=4 then a0d t else if k=5 then 91 :: (Y4 [44] (R8 5 ns (c17 is))++[93]) else 123 :: (Y4 [44] (R8 6 ns (c17 is))++[125])
def c17:List LJson→List Tx
 | []=>[]
 | x :: xs=>jtx x :: c17 xs
end
theorem c16 (l:List LJson):c17 l=l.map jtx:=by
 induction l with
 | nil=>rfl
 | cons x xs ih=>simp [c17,ih]
theorem W5 (k n:Int) (t:Tx) (ns:List Tx) (is:List LJson):jtx (.mk k n t ns is)=if k=1 then jnull else if k=2 then (if n=1 then jtrue else jfalse) else if k=3 then a1w n else if k=4 then a0d t else if k=5 then 91 :: (Y4 [44] (is.map jtx)++[93]) else 123 :: (Y4 [44] (R8 6 ns (is.map jtx))++[125]):=by
 rw [jtx,c16]
 rw [a0t (by decide) ns (is.map jtx)]
theorem b1v {B:Nat} {k:Int} {ns ts:List Tx} (hk:k=5∨(k=6∧ns.length=ts.length∧∀ s∈ns,s.length≤120)) (ih:∀ x∈ts,x.length≤B):∀ x∈R8 k ns ts,x.length+[(44:UInt8)].length≤B+730:=by
 intro x hx
 obtain ⟨i,hi',rfl⟩:=List.mem_iff_getElem.1 hx
 have hi:i < ts.length:=by rw [Z6] at hi';exact hi'
 have hj:=ih _ (List.getElem_mem hi)
 rcases hk with rfl | ⟨rfl,hn,hns⟩
 · have:R8 5 ns ts=ts:=a0t (by decide) _ _
   simp only [this,List.length_cons,List.length_nil];omega
 · rw [a5r ns _ hn i (by omega) hi]
   have hq:=a3a (ns[i]'(by omega))
   have hq2:=hns _ (List.getElem_mem (show i < ns.length by omega))
   simp only [List.length_append,List.length_cons,List.length_nil];omega
theorem b9v {n:Int} (h:-999999999≤n∧n≤999999999):(a1w n).length≤10:=by
 unfold a1w
 split
 · have:=b5h (-n).toNat (by omega)
   simp;omega
 · have:=b5h n.toNat (by omega)
   omega
theorem jpow (d:Nat):2 ^ (10+6*(d+1))=64*2 ^ (10+6*d):=by
 rw [show 10+6*(d+1)=(10+6*d)+6 by omega,Nat.pow_add];omega
theorem b8q:∀ (d:Nat) (j:LJson),Q2 d j→(jtx j).length≤2 ^ (10+6*d)
 | d,.mk k n t ns is,h=>by
  have e0:2 ^ 10≤2 ^ (10+6*d):=Nat.pow_le_pow_right (by omega) (by omega)
  have e4:(2:Nat) ^ 10=1024:=by decide
  unfold Q2 at h
  rcases h with ⟨rfl,_⟩ | ⟨rfl,_⟩ | ⟨rfl,h1,_⟩ | ⟨rfl,_,h1,_⟩ | ⟨_,_,hl,hk,hs⟩
  · rw [W5];simp [jnull];omega
  · rw [W5];simp;split<;>simp [jtrue,jfalse]<;>omega
  · have:=b9v h1
    rw [W5];simp;omega
  · have:=a3a t
    rw [W5];simp;omega
  · cases d with
    | zero=>exact hs.elim
    | succ d=>
     simp only [] at hs
     have e1:2 ^ 10≤2 ^ (10+6*d):=Nat.pow_le_pow_right (by omega) (by omega)
     have ih:∀ x∈is.map jtx,x.length≤2 ^ (10+6*d):=fun x hx=>by
      obtain ⟨y,hy,rfl⟩:=List.mem_map.1 hx
      exact b8q d y (hs y hy)
     have hml:(is.map jtx).length=is.length:=List.length_map ..
     have hk':k=5∨(k=6∧ns.length=(is.map jtx).length∧∀ s∈ns,s.length≤120):=by
      rcases hk with ⟨h,_⟩ | ⟨h,h2,_,h4⟩
      · exact .inl h
      · exact .inr ⟨h,by rw [hml];exact h2,h4⟩
     have hp:=b1v hk' ih
     have hj:=b1r (sep:=[44]) (xs:=R8 k ns (is.map jtx)) hp
     rw [Z6,hml] at hj
     have h16:is.length*(2 ^ (10+6*d)+730)≤12*(2 ^ (10+6*d)+730):=Nat.mul_le_mul_right _ hl
     have e3:=jpow d
     rcases hk with ⟨rfl,_⟩ | ⟨rfl,_⟩
     · rw [a0t (by decide)] at hj
       rw [W5];simp at hj ⊢;omega
     · rw [W5];simp at hj ⊢;omega
theorem a2u {d:Nat} {k:Int} {ns:List Tx} {is:List LJson} (hd:d≤3) (hk:k=5∨(k=6∧ns.length=is.length∧∀ s∈ns,s.length≤120)) (hl:is.length≤12) (hs:∀ x∈is,Q2 d x) (i:Nat):(Y4 [44] ((R8 k ns (is.map jtx)).take i)).length≤3221260272∧∀ x∈is,(jtx x).length≤268435456:=by
 have h3:2 ^ (10+6*d)≤2 ^ 28:=Nat.pow_le_pow_right (by omega) (by omega)
 have e28:(2:Nat) ^ 28=268435456:=by decide
 have ih:∀ x∈is.map jtx,x.length≤268435456:=fun x hx=>by
  obtain ⟨y,hy,rfl⟩:=List.mem_map.1 hx
  have:=b8q d y (hs y hy)
  omega
 have hk':k=5∨(k=6∧ns.length=(is.map jtx).length∧∀ s∈ns,s.length≤120):=by
  rcases hk with h | ⟨h,h2,h4⟩
  · exact .inl h
  · exact .inr ⟨h,by rw [List.length_map];exact h2,h4⟩
 have hp:=b1v hk' ih
 have hj:=b1r (B:=268435456+730) (sep:=[44]) (xs:=(R8 k ns (is.map jtx)).take i) fun x hx=>hp x (List.mem_of_mem_take hx)
 have h1:((R8 k ns (is.map jtx)).take i).length≤12:=by rw [List.length_take,Z6,List.length_map];omega
 have h2:((R8 k ns (is.map jtx)).take i).length*(268435456+730)≤12*(268435456+730):=Nat.mul_le_mul_right _ h1
 exact ⟨by omega,fun x hx=>ih _ (List.mem_map_of_mem hx)⟩
end Go.KP
end
section
namespace Go.KP
end Go.KP
end
section
namespace Go.KP
def R2 (k:Nat):LParcel:=⟨(k:Nat),(k+1:Nat),lmk (k+2)⟩
end Go.KP
end
