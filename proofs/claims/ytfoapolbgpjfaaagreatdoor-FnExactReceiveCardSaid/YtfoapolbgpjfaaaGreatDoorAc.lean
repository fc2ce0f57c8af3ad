/- Ac: merged out of KPa, KPb, KPc, KPd, KPe, KPf, KPg, KPh, KPi, KPj, KPk, KPl, KPm, KPn, KPo, KQa, KRa, KLa, KRb, KRc, KPp, KRd, KPu, KPx, KPy, KPz, KPaa, KPab, KPac, KPad. -/
import Derived.Test.YtfoapolbgpjfaaaGreatDoorPWv
set_option linter.unusedSectionVars false
set_option linter.unusedSimpArgs false
set_option linter.unusedVariables false
section
namespace Go.KP
abbrev Tx:=List UInt8
def S1 (c:UInt8):Bool:=decide (48≤c.toNat∧c.toNat≤57)
def a0g (t:Tx) (c:UInt8):Nat:=t.findIdx (· == c)
def a0p (n:Nat):Tx:=if h:n < 10 then [UInt8.ofNat (48+n)] else a0p (n / 10)++[UInt8.ofNat (48+n % 10)]
termination_by n
decreasing_by omega
theorem b6r (t:Tx) (c:UInt8) (i:Nat) (hi:i≤t.length) (h:∀ k,k < i→t.getD k 0≠c) (h':i=t.length∨t.getD i 0=c):a0g t c=i:=by
 unfold a0g
 by_cases hl:i < t.length
 · rw [List.findIdx_eq hl]
   refine ⟨?_,fun j hj=>?_⟩
   · rcases h' with h' | h'
     · omega
     · simpa [List.getD_eq_getElem?_getD,List.getElem?_eq_getElem hl] using h'
   · have:=h j hj
     have hjl:j < t.length:=by omega
     simpa [List.getD_eq_getElem?_getD,List.getElem?_eq_getElem hjl] using this
 · have e:i=t.length:=by omega
   subst e
   rw [List.findIdx_eq_length]
   intro x hx
   obtain ⟨j,hj,rfl⟩:=List.getElem_of_mem hx
   have:=h j hj
   simpa [List.getD_eq_getElem?_getD,List.getElem?_eq_getElem hj] using this
theorem c4q (t:Tx) (c:UInt8):a0g t c≤t.length:=List.findIdx_le_length
theorem c4p {t:Tx} {c:UInt8}:a0g t c < t.length↔c∈t:=by
 unfold a0g
 rw [List.findIdx_lt_length]
 constructor
 · rintro ⟨x,hx,h⟩;have:x=c:=by simpa using h
   exact this ▸ hx
 · intro h;exact ⟨c,h,by simp⟩
theorem a3b {α:Type} (t:List α) (i:Nat) (d:α) (h:i < t.length):t.getD i d=t[i]:=by simp [List.getD_eq_getElem?_getD,List.getElem?_eq_getElem h]
theorem c1u {α:Type} (t:List α) (i:Nat) (d:α) (h:i < t.length):t.take (i+1)=t.take i++[t.getD i d]:=by
 rw [List.take_add_one,List.getElem?_eq_getElem h,a3b t i d h];rfl
theorem b3v {α:Type} (t:List α) (i:Nat) (d:α) (h:i < t.length):t.drop i=t.getD i d :: t.drop (i+1):=by
 rw [List.drop_eq_getElem_cons h,a3b t i d h]
theorem Z9 {n:Nat} (h:n < 10):a0p n=[UInt8.ofNat (48+n)]:=by rw [a0p];simp [h]
theorem a18 {n:Nat} (h:¬ n < 10):a0p n=a0p (n / 10)++[UInt8.ofNat (48+n % 10)]:=by rw [a0p];simp [h]
theorem b6s (n:Nat):(a0p n).length≤n+1:=by
 induction n using Nat.strongRecOn with
 | ind n ih=>
  by_cases h:n < 10
  · rw [Z9 h];simp
  · rw [a18 h]
    have:=ih (n / 10) (by omega)
    simp;omega
theorem b08:∀ (k n:Nat),n < 10 ^ (k+1)→(a0p n).length≤k+1
 | 0,n,h=>by rw [Z9 (by simpa using h)];simp
 | k+1,n,h=>by
  by_cases hn:n < 10
  · rw [Z9 hn];simp
  · rw [a18 hn]
    have:=b08 k (n / 10) (by rw [Nat.div_lt_iff_lt_mul (by omega)];rw [Nat.pow_succ] at h;exact h)
    simp;omega
def a2p (n:Int):Tx:=if n < 0 then 45 :: a0p (-n).toNat else a0p n.toNat
def U8 (t:Tx):Nat:=t.foldl (fun n c=>n*10+(c.toNat - 48)) 0
def a1b (neg:Bool) (t:Tx):Bool:=decide (t.length=0∨18 < t.length) || (decide ((t.getD 0 0).toNat=48) && (decide (1 < t.length) || neg))
def a0c (neg:Bool) (t:Tx):Option Int:=if a1b neg t then none else if t.all S1 then some (if neg then - (U8 t:Int) else (U8 t:Int)) else none
def U1 (t:Tx):Option Int:=match t with
 | []=>none
 | c :: r=>if c=45 then a0c true r else a0c false (c :: r)
theorem a52 (t:Tx) (c:UInt8):U8 (t++[c])=U8 t*10+(c.toNat - 48):=by simp [U8]
theorem b4s (t:Tx) (h:t.all S1=true):U8 t < 10 ^ t.length:=by
 have key:∀ (k:Nat) (t:Tx),t.length=k→t.all S1=true→U8 t < 10 ^ t.length:=by
  intro k
  induction k with
  | zero=>intro t ht _;have:t=[]:=List.eq_nil_of_length_eq_zero ht;subst this;decide
  | succ k ih=>
   intro t ht ha
   obtain ⟨r,c,rfl⟩:∃ r c,t=r++[c]:=⟨t.dropLast,t.getLast (by intro e;subst e;simp at ht),(List.dropLast_concat_getLast _).symm⟩
   simp only [List.all_append,Bool.and_eq_true] at ha
   have h1:=ih r (by simpa using ht) ha.1
   have h2:S1 c=true:=by simpa using ha.2
   simp [S1] at h2
   rw [a52]
   simp only [List.length_append,List.length_singleton,Nat.pow_succ]
   omega
 exact key t.length t rfl h
theorem b22 {α:Type} (t:List α) (p:α→Bool) (i:Nat) (h:i < t.length):(t.take (i+1)).all p=((t.take i).all p && p t[i]):=by
 rw [List.take_add_one,List.getElem?_eq_getElem h,List.all_append];simp
structure LUrl where
 scheme:Tx
 user:Tx
 host:Tx
 port:Int
 path:Tx
 query:Tx
 frag:Tx
 hasQ:Bool
 hasF:Bool
def LUrl.Small (u:LUrl):Prop:=u.scheme.length < 1099511627776∧u.user.length < 1099511627776∧u.host.length < 1099511627776∧u.path.length < 1099511627776∧u.query.length < 1099511627776∧u.frag.length < 1099511627776∧u.port≤9223372036854775807
end Go.KP
end
section
namespace Go.KP
def LUrl.zero:LUrl:=⟨[],[],[],0,[],[],[],false,false⟩
structure LTarget where
 url:Tx
 prio:Int
 weight:Int
 deriving DecidableEq
structure LPeer where
 target:LTarget
 fails:Int
 retry:Int
 gone:Bool
 deriving DecidableEq
end Go.KP
end
section
namespace Go.KP
end Go.KP
end
section
namespace Go.KP
theorem b09:∀ (n:Nat),(a0p n).all S1=true:=by
 intro n
 induction n using Nat.strongRecOn with
 | ind n ih=>
  by_cases h:n < 10
  · rw [Z9 h]
    simp [S1]
    omega
  · rw [a18 h,List.all_append,ih (n / 10) (by omega)]
    simp [S1]
    omega
end Go.KP
end
section
namespace Go.KP
theorem b37 (k:Nat) (h:k < 10):(UInt8.ofNat (48+k)).toNat=48+k:=by
 rw [UInt8.toNat_ofNat'];omega
theorem b3e (n:Nat):U8 (a0p n)=n:=by
 induction n using Nat.strongRecOn with
 | ind n ih=>
  by_cases h:n < 10
  · rw [Z9 h]
    have:=b37 n h
    simp only [U8,List.foldl_cons,List.foldl_nil,this];omega
  · rw [a18 h,a52,ih (n / 10) (by omega),b37 _ (by omega)]
    omega
theorem b4x (n:Nat):a0p n≠[]:=by
 by_cases h:n < 10
 · rw [Z9 h];simp
 · rw [a18 h];simp
theorem c2h (n:Nat) (h0:n≠0):((a0p n).getD 0 0).toNat≠48:=by
 induction n using Nat.strongRecOn with
 | ind n ih=>
  by_cases h:n < 10
  · rw [Z9 h]
    have:=b37 n h
    simp only [List.getD_cons_zero,this];omega
  · rw [a18 h]
    have h1:=ih (n / 10) (by omega) (by omega)
    cases hl:a0p (n / 10) with
    | nil=>exact absurd hl (b4x _)
    | cons c r=>rw [hl] at h1;simpa using h1
theorem a9n {c:UInt8} (h:S1 c=true):UInt8.ofNat (48+(c.toNat - 48))=c:=by
 simp only [S1,decide_eq_true_eq] at h
 apply UInt8.toNat_inj.1
 rw [b37 _ (by omega)];omega
theorem c2g:∀ (k:Nat) (t:Tx),t.length=k→t≠[]→t.all S1=true→((t.getD 0 0).toNat=48→t.length=1)→a0p (U8 t)=t:=by
 intro k
 induction k with
 | zero=>intro t ht h;exact absurd (List.eq_nil_of_length_eq_zero ht) h
 | succ k ih=>
  intro t ht hne ha hz
  obtain ⟨r,c,rfl⟩:∃ r c,t=r++[c]:=⟨t.dropLast,t.getLast hne,(List.dropLast_concat_getLast _).symm⟩
  simp only [List.all_append,Bool.and_eq_true] at ha
  have hc:S1 c=true:=by simpa using ha.2
  have hc':=hc
  simp only [S1,decide_eq_true_eq] at hc'
  rw [a52]
  cases r with
  | nil=>
   rw [show U8 []*10+(c.toNat - 48)=c.toNat - 48 by simp [U8]]
   rw [Z9 (by omega),a9n hc];rfl
  | cons d r=>
   have hd:d.toNat≠48:=fun e=>by
    have:=hz (by simpa using e)
    simp at this
   have hi:=ih (d :: r) (by simpa using ht) (by simp) ha.1 (fun e=>absurd (by simpa using e) hd)
   have hpos:U8 (d :: r)≠0:=fun e=>by
    rw [e,Z9 (by omega)] at hi
    have h2:UInt8.ofNat 48=d:=by simpa using (List.cons.inj hi).1
    exact hd (by rw [← h2];rfl)
   rw [a18 (by omega)]
   have e1:(U8 (d :: r)*10+(c.toNat - 48)) / 10=U8 (d :: r):=by omega
   have e2:(U8 (d :: r)*10+(c.toNat - 48)) % 10=c.toNat - 48:=by omega
   rw [e1,e2,hi,a9n hc]
def W5 (t:Tx):Nat:=match t with
 | []=>0
 | c :: r=>if c=45 then r.length else (c :: r).length
theorem a9k (neg:Bool) (n:Nat) (h18:(a0p n).length≤18) (hn:neg=true→n≠0):a1b neg (a0p n)=false:=by
 unfold a1b
 have h1:(a0p n).length≠0:=fun e=>b4x n (List.eq_nil_of_length_eq_zero e)
 by_cases h0:n=0
 · subst h0
   cases neg with
   | true=>exact absurd rfl (hn rfl)
   | false=>rw [Z9 (by omega)];simp
 · have h2:=c2h n h0
   have e1:decide ((a0p n).length=0∨18 < (a0p n).length)=false:=by simp only [decide_eq_false_iff_not];omega
   have e2:decide (((a0p n).getD 0 0).toNat=48)=false:=by simp only [decide_eq_false_iff_not];exact h2
   rw [e1,e2];rfl
theorem b4w (n:Int) (h:W5 (a2p n)≤18):U1 (a2p n)=some n:=by
 unfold a2p at h ⊢
 by_cases h0:n < 0
 · rw [if_pos h0] at h ⊢
   have h':(a0p (-n).toNat).length≤18:=by simpa [W5] using h
   simp only [U1,if_true,a0c]
   rw [a9k true _ h' (fun _=>by omega),if_neg (by simp),if_pos (b09 _),b3e]
   simp;omega
 · rw [if_neg h0] at h ⊢
   cases hl:a0p n.toNat with
   | nil=>exact absurd hl (b4x _)
   | cons c r=>
    have hd:=b09 n.toNat
    rw [hl] at hd h
    have hc:c≠45:=fun e=>by subst e;simp [S1] at hd
    have h':(a0p n.toNat).length≤18:=by rw [hl];simpa [W5,hc] using h
    simp only [U1,hc,if_false]
    rw [← hl]
    simp only [a0c]
    rw [a9k false _ h' (fun e=>by cases e),if_neg (by simp),if_pos (b09 _),b3e]
    simp;omega
theorem b4v {t:Tx} {n:Int} (h:U1 t=some n):a2p n=t∧W5 t≤18 ∧
 ∃ u:Tx,u≠[]∧u.all S1=true∧u.length≤18∧((t=45 :: u∧n=-(U8 u:Int))∨(t=u∧n=U8 u)):=by
 have key:∀ (neg:Bool) (u:Tx),a0c neg u=some n→u≠[]∧u.length≤18∧u.all S1=true∧a0p (U8 u)=u∧(neg=true→U8 u≠0)∧n=(if neg then - (U8 u:Int) else (U8 u:Int)):=by
  intro neg u hu
  unfold a0c at hu
  split at hu
  · cases hu
  · rename_i hb
    split at hu
    · rename_i ha
      have hn:=(Option.some.inj hu).symm
      have hb':a1b neg u=false:=by simpa using hb
      unfold a1b at hb'
      rw [Bool.or_eq_false_iff] at hb'
      obtain ⟨q1,q2⟩:=hb'
      rw [decide_eq_false_iff_not] at q1
      have hne:u≠[]:=fun e=>q1 (by rw [e];simp)
      have hz:(u.getD 0 0).toNat=48→u.length=1∧neg=false:=fun e=>by
       rw [Bool.and_eq_false_iff] at q2
       rcases q2 with q2 | q2
       · simp only [decide_eq_false_iff_not] at q2;exact absurd e q2
       · rw [Bool.or_eq_false_iff,decide_eq_false_iff_not] at q2
         have:u.length≠0:=fun e=>hne (List.eq_nil_of_length_eq_zero e)
         exact ⟨by omega,q2.2⟩
      have hl:=c2g u.length u rfl hne ha (fun e=>(hz e).1)
      refine ⟨hne,by omega,ha,hl,fun hneg h0=>?_,hn⟩
      rw [h0,Z9 (by omega)] at hl
      have:=(hz (by rw [← hl];rfl)).2
      rw [hneg] at this;cases this
    · cases hu
 unfold U1 at h
 split at h
 · cases h
 · rename_i c r
   split at h
   · rename_i hc
     subst hc
     obtain ⟨h1,h2,h3,h4,h5,h6⟩:=key true r h
     simp only [if_true] at h6
     have h5':=h5 rfl
     refine ⟨?_,by simpa [W5] using h2,r,h1,h3,h2,.inl ⟨rfl,h6⟩⟩
     unfold a2p
     rw [if_pos (by omega),h6]
     rw [show (- -(U8 r:Int)).toNat=U8 r by omega,h4]
   · rename_i hc
     obtain ⟨h1,h2,h3,h4,h5,h6⟩:=key false (c :: r) h
     have h6:n=(U8 (c :: r):Int):=h6
     refine ⟨?_,by simpa [W5,hc] using h2,c :: r,h1,h3,h2,.inr ⟨rfl,h6⟩⟩
     unfold a2p
     rw [if_neg (by omega),h6]
     rw [show ((U8 (c :: r):Int)).toNat=U8 (c :: r) by omega,h4]
end Go.KP
end
section
namespace Go.KP
def LTarget.Small (x:LTarget):Prop:=x.url.length < 1099511627776
end Go.KP
end
section
namespace Go.KP
end Go.KP
end
section
namespace Go.KP
def c4m (now:Int) (x:LPeer):Bool:=!x.gone && decide (x.retry≤now)
def chMatch (now b:Int) (x:LPeer):Bool:=c4m now x && decide (x.target.prio=b)
def chSum (now b:Int):List LPeer→Int
 | []=>0
 | x :: l=>(if chMatch now b x then x.target.weight else 0)+chSum now b l
structure ChInv (now:Int) (l:List LPeer) (a:Int×Int):Prop where
 lo:0≤a.2
 hi:a.2≤9*l.length
 sum:a.2=if a.2=0 then 0 else chSum now a.1 l
 low:∀ x∈l,c4m now x=true→a.1≤x.target.prio∧0 < a.2
 nine:a.2≠0→1≤a.1∧a.1≤9
end Go.KP
end
section
namespace Go.KP
def b2r (k:Nat) (out:Tx):Tx:=if h:k=0 then out else b2r (k / 10) (UInt8.ofNat (48+k % 10) :: out)
termination_by k
decreasing_by omega
theorem c2f (out:Tx):b2r 0 out=out:=by rw [b2r];simp
theorem c4o {k:Nat} (h:k≠0) (out:Tx):b2r k out=b2r (k / 10) (UInt8.ofNat (48+k % 10) :: out):=by
 conv=>lhs;rw [b2r]
 simp [h]
def lmk (k:Nat):Tx:=if k=0 then [109,48] else 109 :: b2r k []
end Go.KP
end
section
namespace Go.KP
end Go.KP
end
section
namespace Go.KP
def a4a {α:Type} (f:α→Nat) (l:List α):Nat:=(l.map f).sum
def zS {α:Type} (f:α→Nat) (l:List α):Nat:=l.length+a4a f l
def bdS {α:Type} (B:Nat) (p:α→Prop) (l:List α):Prop:=l.length≤B∧∀ x∈l,p x
def cut (left:Int) (n:Nat):Int:=if left - n < 0 then -1 else left - n
theorem W2 {left:Int} {n:Nat} (h:left - n < 0):cut left n=-1:=if_pos h
theorem a2b {left:Int} {n:Nat} (h:¬ left - n < 0):cut left n=left - n:=if_neg h
theorem b3w {left:Int} {n:Nat} (h:¬ cut left n < 0) (h0:0≤left):(n:Int)≤left∧cut left n=left - n:=by
 unfold cut at *
 split at h<;>rename_i h1
 · omega
 · rw [if_neg h1];omega
theorem c2e {α:Type} {f:α→Nat} (l:List α) {i:Nat} (h:i < l.length):a4a f (l.take (i+1))=a4a f (l.take i)+f l[i]:=by
 unfold a4a
 rw [List.take_add_one,List.getElem?_eq_getElem h,List.map_append,List.sum_append]
 simp
theorem lsum_le {α:Type} {f:α→Nat} (l:List α) (i:Nat):a4a f (l.take i)≤a4a f l:=by
 unfold a4a
 conv=>rhs;rw [← List.take_append_drop i l]
 rw [List.map_append,List.sum_append]
 omega
theorem c4l {α:Type} {f:α→Nat} {l:List α} {x:α} (h:x∈l):f x≤a4a f l:=by
 unfold a4a
 induction l with
 | nil=>cases h
 | cons y l ih=>
  rcases List.mem_cons.1 h with rfl | h
  · simp
  · have:=ih h;simp;omega
theorem bdS_of {α:Type} {B:Nat} {f:α→Nat} {p:α→Prop} {l:List α} (hp:∀ x,f x≤B→p x) (h:zS f l≤B):bdS B p l:=by
 unfold zS at h
 exact ⟨by omega,fun x hx=>hp x (by have:=c4l (f:=f) hx;omega)⟩
structure LGroup where
 name:Tx
 age:Int
 targets:List LTarget
 deriving DecidableEq
structure LRule where
 name:Tx
 words:List Tx
 deriving DecidableEq
structure LPolicy where
 reportTo:Tx
 uris:List Tx
 rules:List LRule
 deriving DecidableEq
structure LViolation where
 document:Tx
 referrer:Tx
 blocked:Tx
 source:Tx
 directive:Tx
 sample:Tx
 line:Int
 column:Int
 redirected:Bool
 deriving DecidableEq
structure LReport where
 id:Int
 born:Int
 tries:Int
 body:Tx
 deriving DecidableEq
structure LQueue where
 items:List LReport
 recent:List Tx
 deriving DecidableEq
structure LChannel where
 group:LGroup
 peers:List LPeer
 queue:LQueue
 deriving DecidableEq
structure LEntry where
 kind:Int
 id:Int
 at_:Int
 deriving DecidableEq
structure LWire where
 at_:Int
 status:Int
 group:Tx
 url:Tx
 ids:List Int
 body:Tx
 lost:Bool
 deriving DecidableEq
def a9c (x:LWire):Nat:=x.group.length+x.url.length+x.ids.length+x.body.length
def a0v (B:Nat) (x:LWire):Prop:=x.group.length≤B∧x.url.length≤B∧x.ids.length≤B∧x.body.length≤B
theorem c3n {B:Nat} {x:LWire} (h:a9c x≤B):a0v B x:=by
 unfold a9c at h
 unfold a0v
 exact ⟨by omega,by omega,by omega,by omega⟩
structure LPipe where
 channels:List LChannel
 policy:LPolicy
 now:Int
 next:Int
 log:List LEntry
 wires:List LWire
 deriving DecidableEq
structure LEvent where
 kind:Int
 draw:Int
 status:Int
 ticks:Int
 text:Tx
 name:Tx
 violation:LViolation
 lost:Bool
 deriving DecidableEq
structure LParcel where
 id:Int
 age:Int
 body:Tx
 deriving DecidableEq
structure LBox where
 ids:List Int
 times:List Int
 bodies:List Tx
 deriving DecidableEq
def b2k (x:LBox):Nat:=x.ids.length+x.times.length+zS List.length x.bodies
def a16 (B:Nat) (x:LBox):Prop:=x.ids.length≤B∧x.times.length≤B∧bdS B (fun t=>t.length≤B) x.bodies
theorem zBox_bd {B:Nat} {x:LBox} (h:b2k x≤B):a16 B x:=by
 unfold b2k at h
 unfold a16
 exact ⟨by omega,by omega,bdS_of (fun _ h=>h) (show zS List.length x.bodies≤B by omega)⟩
end Go.KP
end
section
namespace Go.KP
def a2o {α:Type} (l:List α) (p:α→Bool):Int:=match l.findIdx? p with
 | some i=>i
 | none=>-1
theorem c0t {α:Type} (l:List α) (p:α→Bool):decide (0≤a2o l p)=l.any p:=by
 unfold a2o
 cases h:l.findIdx? p with
 | none=>
  rw [List.findIdx?_eq_none_iff] at h
  rw [Bool.eq_iff_iff]
  simp only [decide_eq_true_eq,List.any_eq_true]
  constructor
  · intro h;omega
  · rintro ⟨x,hx,hp⟩;rw [h x hx] at hp;cases hp
 | some i=>
  rw [List.findIdx?_eq_some_iff_getElem] at h
  obtain ⟨hi,hp,_⟩:=h
  show decide (0≤(i:Int))=_
  rw [decide_eq_true (by omega)]
  symm
  rw [List.any_eq_true]
  exact ⟨l[i],List.getElem_mem hi,hp⟩
theorem a2n {α:Type} {l:List α} {p:α→Bool} {i:Nat} (hi:i < l.length) (hp:p l[i]=true) (h:∀ k (hk:k < i),p (l[k]'(by omega))=false):a2o l p=i:=by
 unfold a2o
 have:l.findIdx? p=some i:=by
  rw [List.findIdx?_eq_some_iff_getElem]
  exact ⟨hi,hp,fun j hj=>by simp [h j hj]⟩
 rw [this]
theorem a3s {α:Type} {l:List α} {p:α→Bool} (h:∀ k (hk:k < l.length),p l[k]=false):a2o l p=-1:=by
 unfold a2o
 have:l.findIdx? p=none:=by
  rw [List.findIdx?_eq_none_iff]
  intro x hx
  obtain ⟨k,hk,rfl⟩:=List.getElem_of_mem hx
  exact h k hk
 rw [this]
theorem a54 {α:Type} (l:List α) (p:α→Bool):(a2o l p=-1∧l.find? p=none)∨∃ i,∃ h:i < l.length,a2o l p=i∧l.find? p=some l[i]:=by
 unfold a2o
 cases h:l.findIdx? p with
 | none=>
  rw [List.findIdx?_eq_none_iff] at h
  exact .inl ⟨rfl,List.find?_eq_none.2 fun x hx=>by simp [h x hx]⟩
 | some i=>
  rw [List.findIdx?_eq_some_iff_getElem] at h
  obtain ⟨hi,hp,hlt⟩:=h
  exact .inr ⟨i,hi,rfl,List.find?_eq_some_iff_getElem.2 ⟨hp,i,hi,rfl,fun j hj=>by simpa using hlt j hj⟩⟩
end Go.KP
end
section
namespace Go.KP
def mkL {α:Type} (f:Nat→α) (w n k:Nat):List α:=(List.range n).map fun j=>f (k+w*j)
theorem Z8 {α:Type} (f:Nat→α) (w n k:Nat):(mkL f w n k).length=n:=by simp [mkL]
theorem c4i {α:Type} {f:Nat→α} {w n k j:Nat} (h:j < n):(mkL f w n k)[j]'(by rw [Z8];exact h)=f (k+w*j):=by simp [mkL]
theorem c4h {α:Type} (f:Nat→α) (w i k:Nat):mkL f w (i+1) k=mkL f w i k++[f (k+w*i)]:=by simp [mkL,List.range_succ]
def mkU {α:Type} (f:Nat→α) (w:Nat) (l:List α) (k i:Nat):List α:=mkL f w i k++l.drop i
theorem b6m {α:Type} (f:Nat→α) (w:Nat) (l:List α) (k:Nat):mkU f w l k 0=l:=by simp [mkU,mkL]
theorem c0q {α:Type} (f:Nat→α) (w:Nat) (l:List α) (k:Nat):mkU f w l k l.length=mkL f w l.length k:=by simp [mkU]
theorem c0p {α:Type} (f:Nat→α) (w:Nat) (l:List α) (k i:Nat) (h:i≤l.length):(mkU f w l k i).length=l.length:=by simp [mkU,Z8];omega
theorem c0o {α:Type} (f:Nat→α) (w:Nat) (l:List α) (k i:Nat) (h:i < l.length):(mkU f w l k i).set i (f (k+w*i))=mkU f w l k (i+1):=by
 unfold mkU
 rw [List.set_append_right _ _ (by rw [Z8];exact Nat.le_refl _),Z8,Nat.sub_self,List.drop_eq_getElem_cons h,List.set_cons_zero,c4h,List.append_assoc]
 rfl
end Go.KP
end
section
namespace Go.KP
end Go.KP
end
section
namespace Go.KP
def a0f (sep:Tx):List Tx→Tx
 | []=>[]
 | x :: xs=>x++(xs.map (sep++·)).flatten
theorem b82 (sep:Tx) (xs:List Tx) (x:Tx):a0f sep (xs++[x])=a0f sep xs++((if xs=[] then [] else sep)++x):=by
 cases xs with
 | nil=>simp [a0f]
 | cons y ys=>simp [a0f]
theorem b81 (sep:Tx) (xs:List Tx) (i:Nat) (h:i < xs.length):a0f sep (xs.take (i+1))=a0f sep (xs.take i)++((if i=0 then [] else sep)++xs[i]):=by
 rw [List.take_add_one,List.getElem?_eq_getElem h]
 simp only [Option.toList_some]
 rw [b82]
 by_cases hi:i=0
 · subst hi;simp
 · have:¬ xs.take i=[]:=by
    intro e
    have:=congrArg List.length e
    rw [List.length_take,List.length_nil] at this
    omega
   rw [if_neg this,if_neg hi]
theorem b7e {B:Nat} {sep:Tx}:∀ {xs:List Tx},(∀ x∈xs,x.length+sep.length≤B)→((xs.map (sep++·)).flatten).length≤xs.length*B
 | [],_=>by simp
 | x :: xs,h=>by
  have h1:=h x (by simp)
  have h2:=b7e (xs:=xs) fun y hy=>h y (by simp [hy])
  simp only [List.map_cons,List.flatten_cons,List.length_append,List.length_cons,Nat.add_mul] at *
  omega
theorem b3g {B:Nat} {sep:Tx} {xs:List Tx} (h:∀ x∈xs,x.length+sep.length≤B):(a0f sep xs).length≤xs.length*B:=by
 cases xs with
 | nil=>simp [a0f]
 | cons x xs=>
  have h1:=h x (by simp)
  have h2:=b7e (xs:=xs) fun y hy=>h y (by simp [hy])
  simp only [a0f,List.length_append,List.length_cons,Nat.add_mul] at *
  omega
end Go.KP
end
section
namespace Go.PW
open Go.RowKit Go.KP
theorem c3p {a b:UInt8}:((a.toNat:Int)=(b.toNat:Int))↔a=b:=by
 constructor
 · intro h;exact UInt8.toNat_inj.1 (by omega)
 · rintro rfl;rfl
def rvb (c:UInt8):RV:=.int .u8 c.toNat
def tx (t:Tx):RV:=.str (bs t)
def num (n:Int):RV:=.int .i64 n
theorem a5o (l:Tx):V2 (l.map rvb)=bs l:=by
 unfold V2 bs
 congr 1
 congr 1
 rw [List.map_map]
 have:(RV.byte ∘ rvb)=id:=by
  funext c
  simp [rvb,RV.byte]
 rw [this];simp
theorem a0j {x:Int} (h1:0≤x) (h2:x < 256):IntKind.u8.wrap x=x:=by
 unfold IntKind.wrap
 simp [IntKind.bits,IntKind.signed]
 omega
def rvUrl (u:LUrl):RV:=.agg [tx u.scheme,tx u.user,tx u.host,num u.port,tx u.path,tx u.query,tx u.frag,.bool u.hasQ,.bool u.hasF]
end Go.PW
end
section
namespace Go.PW
open Go.RowKit Go.KP
variable [GF]
theorem c38 (φ:Nat→Option RV) (rs:List RV):PV.plL (PV.frzL φ (rs.map .val))=rs.map .val:=by
 induction rs with
 | nil=>rfl
 | cons r rs ih=>simp [PV.frzL,PV.plL,PV.frz,PV.pl,ih]
def b0b (u:LUrl):List PV:=[.val (tx u.scheme),.val (tx u.user),.val (tx u.host),.val (num u.port),.val (tx u.path),.val (tx u.query),.val (tx u.frag),.val (.bool u.hasQ),.val (.bool u.hasF)]
def c4a (r:LUrl×Bool):PV:=.tup [.val (rvUrl r.1),.val (.bool r.2)]
def b0n (x:LTarget):RV:=.agg [tx x.url,num x.prio,num x.weight]
def c3x (x:LPeer):RV:=.agg [tx x.target.url,num x.target.prio,num x.target.weight,num x.fails,num x.retry,.bool x.gone]
theorem c5q {P:Program} {st:St} {Ke:Kx (PV→St→Prop)} {kx:Kx (RV→St→Prop)} {d f ps as p} (ha:P5 st.mem ps=some as) (hb:boxIds ps=[]) (hs:∀ b,p.shift b=p) (ho:p.ownLt 0=true) (hr:ps.all PV.noOwn=true∨p.flat=true) (h:f9 P f as (.ret p []) []) (hK:Ke.k p st):KC P st d f ps (Ke:=Ke) (kx:=kx):=by
 refine a2y (K:=fun q st'=>q=p∧st'=st) (kx:=fun _ _=>False) (fun p s hh=>by obtain ⟨rfl,rfl⟩:=hh;exact hK) (fun _ _ hh=>hh.elim) (a3e ?_)
 unfold a1v
 rw [ha]
 exact ⟨hb,p,h,hs,ho,hr,rfl⟩
theorem c5p {P:Program} {st:St} {Kp:Kx (PV→Prop)} {f ps as p} (ha:P5 st.mem ps=some as) (hb:boxIds ps=[]) (hs:∀ b,p.shift b=p) (ho:p.ownLt 0=true) (hr:ps.all PV.noOwn=true∨p.flat=true) (h:f9 P f as (.ret p []) []) (hK:Kp.k p):KX P st f ps (Kp:=Kp):=by
 unfold KX a1v
 rw [ha]
 exact ⟨hb,p,h,hs,ho,hr,hK⟩
theorem T0 {P:Program} {st:St} {Ke:Kx (PV→St→Prop)} {kx:Kx (RV→St→Prop)} {d f ps as a b} (ha:P5 st.mem ps=some as) (hb:boxIds ps=[]) (hr:ps.all PV.noOwn=true∨(PV.tup [.val a,.val b]).flat=true) (h:f9 P f as (.ret (.tup [.val a,.val b]) []) []) (hK:Ke.k (.tup [.val a,.val b]) st):KC P st d f ps (Ke:=Ke) (kx:=kx):=
 c5q ha hb (fun _=>rfl) rfl hr h hK
theorem a6b {P:Program} {st:St} {Kp:Kx (PV→Prop)} {f ps as a b} (ha:P5 st.mem ps=some as) (hb:boxIds ps=[]) (hr:ps.all PV.noOwn=true∨(PV.tup [.val a,.val b]).flat=true) (h:f9 P f as (.ret (.tup [.val a,.val b]) []) []) (hK:Kp.k (.tup [.val a,.val b])):KX P st f ps (Kp:=Kp):=
 c5p ha hb (fun _=>rfl) rfl hr h hK
end Go.PW
end
section
namespace Go.PW
open Go.RowKit Go.KP
variable [GF]
def RV.sv:RV→Option Value
 | .str s=>some (.string s)
 | .int k n=>some (.int k n)
 | .bool b=>some (.bool b)
 | _=>none
def svs:List RV→Option (List Value)
 | []=>some []
 | r :: rs=>match r.sv,svs rs with
  | some v,some vs=>some (v :: vs)
  | _,_=>none
theorem sv_rep {L:Nat→Prop} {w:World} {r:RV} {v u:Value} (h:r.sv=some v) (hr:RepR L w r u):u=v:=by
 cases hr with
 | bool b=>simpa [RV.sv] using h
 | int k n=>simpa [RV.sv] using h
 | str s=>simpa [RV.sv] using h
 | _=>simp [RV.sv] at h
theorem sv_self {L:Nat→Prop} {w:World} {r:RV} {v:Value} (h:r.sv=some v):RepR L w r v:=by
 cases r with
 | bool b=>simp [RV.sv] at h;subst h;exact .bool b
 | int k n=>simp [RV.sv] at h;subst h;exact .int k n
 | str s=>simp [RV.sv] at h;subst h;exact .str s
 | _=>simp [RV.sv] at h
theorem a98 {L:Nat→Prop} {w:World}:∀ {rs:List RV} {vals vs:List Value} {ms:List Nat},svs rs=some vals→ArgsRep L w (rs.map .val) vs ms→vs=vals∧ms=[]
 | [],vals,vs,ms,h,hr=>by
  simp [svs] at h;subst h
  cases hr;exact ⟨rfl,rfl⟩
 | r :: rs,vals,vs,ms,h,hr=>by
  rw [List.map_cons] at hr
  cases hr with
  | cons _ _ v vs' ms1 ms2 h1 h2=>
   cases h1 with
   | val _ _ h1=>
    simp only [svs] at h
    split at h
    · rename_i v' vs'' e1 e2
      obtain ⟨rfl,rfl⟩:=a98 e2 h2
      have:=sv_rep e1 h1
      subst this
      have:=Option.some.inj h
      exact ⟨this,rfl⟩
    · cases h
theorem a41 {F:Ctx} {γ:Nat→Value} {w:World}:MemInv F γ (K2 []) w:=
 ⟨fun id cs h=>by simp [K2] at h,fun id E sz xs h=>by simp [K2] at h,fun id E sz n c h=>by simp [K2] at h,fun id s clk m h=>by simp [K2] at h,fun id id' b h=>by simp [K2,MObj.live] at h⟩
theorem c28 {P:Program} {f:Nat} {rs:List RV} {vals:List Value} {p:PV} {v:Value} (ha:svs rs=some vals) (hp:∀ γ L w,RepP γ L w p v)
 (h:∀ L w,Globs L w→b23 L w→Calls P f vals.toArray w fun e w'=>e=.returned v∧Below w.heap.size w w'):f9 P f (rs.map .val) (.ret p []) []:=by
 intro L w vs ms hL hgl hgb hargs hnd
 obtain ⟨rfl,rfl⟩:=a98 ha hargs
 refine (h L w hgl hgb).mono fun e w' ⟨he,hb⟩=>?_
 exact ⟨Outside.of_below hb,v,fun _=>undef,he,hp _ _ _,a41,rfl,fun i b cells h1 h2=>by simp at h1⟩
theorem a7h {P:Program} {f:Nat} {rs:List RV} {vals:List Value} {r:RV} {v:Value} (ha:svs rs=some vals) (hv:r.sv=some v)
 (h:∀ L w,Globs L w→b23 L w→Calls P f vals.toArray w fun e w'=>e=.returned v∧Below w.heap.size w w'):f9 P f (rs.map .val) (.ret (.val r) []) []:=
 c28 ha (fun γ L w=>.val _ _ (sv_self hv)) h
theorem a7l {w w':World} (h:w'=w):Below w.heap.size w w':=by subst h;exact Below.refl _ _
end Go.PW
end
section
namespace Go.PW
open Go.RowKit Go.KP
variable [GF]
def b2g (M:Nat→MObj):List Nat→List (List RV)→Prop
 | [],[]=>True
 | id :: ids,b :: bs=>M id=.box (b.map .val)∧b2g M ids bs
 | _,_=>False
def U9 (M:Nat→MObj):Nat→List (List RV)→Prop
 | _,[]=>True
 | k,b :: bs=>M (900+k)=.box (b.map .val)∧U9 M (k+1) bs
theorem a6k:∀ {M:Nat→MObj} {ids:List Nat} {B:List (List RV)},b2g M ids B→S9 M ids B=M
 | M,[],[],_=>rfl
 | M,id :: ids,b :: bs,h=>by
  have e:upd id (.box (b.map .val)) M=M:=by
   funext x
   by_cases hx:x=id
   · subst hx;rw [Q6,h.1]
   · rw [Q5 _ _ _ _ hx]
  simp only [S9]
  rw [e]
  exact a6k h.2
 | M,[],_ :: _,h=>h.elim
 | M,_ :: _,[],h=>h.elim
theorem b27:∀ {M:Nat→MObj} {ids:List Nat} {B:List (List RV)},b2g M ids B→B.length=ids.length
 | M,[],[],_=>rfl
 | M,id :: ids,b :: bs,h=>by simp [b27 h.2]
 | M,[],_ :: _,h=>h.elim
 | M,_ :: _,[],h=>h.elim
theorem b5l (b:List RV):F7 (b.map .val)=some b:=by
 induction b with
 | nil=>rfl
 | cons r b ih=>simp [F7,ih]
theorem a4k {st:St}:∀ {k:Nat} {B:List (List RV)},U9 st.mem k B→a23 st.fin k B
 | k,[],_=>trivial
 | k,b :: B,h=>by
  have e2:st.fin.mem (900+k)=.box (b.map .val):=by
   simp only [St.fin,St.freeze,h.1,MObj.pl,c38]
  exact ⟨by rw [e2];exact b5l b,a4k h.2⟩
def RetB (res:List Rs) (p:PV) (B:List (List RV)):PExit→St→Prop
 | .normal,st=>P2 res st.fin=some p∧U9 st.mem 0 B
 | .ret,st=>P2 res st.fin=some p∧U9 st.mem 0 B
 | _,_=>False
@[simp] theorem a8g {res p B} {st:St}:RetB res p B .ret st=(P2 res st.fin=some p∧U9 st.mem 0 B):=by rfl
@[simp] theorem RetB_normal {res p B} {st:St}:RetB res p B .normal st=(P2 res st.fin=some p∧U9 st.mem 0 B):=by rfl
theorem a84 {P:Program} {f:Nat} {c:PC} {res:List Rs} {as:List AV} {p:PV} {B:List (List RV)} (hm:P.follows .mixedOrders=true) (hc:K5 P f c as.length res=true) (hb:a7 as=B) (hp:∀ ι,p.ren ι=p)
 (h:U6 P c (b9 as) (RetB res p B)):f9 P f as (.ret p []) B:=by
 refine a6a hm hc (S3 (fun e s hh=>?_) h)
 have key:P2 res s.fin=some p∧U9 s.mem 0 B→∃ st',Le s st'∧b2h res (a7 as).length (.ret p []) B .ret st':=fun hh=>
  ⟨s.fin,(Le.freeze s _).trans (Le.plain _),(by rw [hb]),⟨⟨id,by rw [hp];exact hh.1,fun i j hi=>by simp at hi,fun i r hr=>by simp at hr⟩,a4k hh.2⟩⟩
 cases e with
 | normal=>exact key hh
 | ret=>exact key hh
 | exit id=>exact hh.elim
 | pan r=>exact hh.elim
theorem a7w (st:St):st.kill (fun _=>false)=st:=by
 cases st with
 | mk env mem=>
  simp only [St.kill,PV.kill_none]
  congr 1
  funext x
  cases mem x with
  | dead=>rfl
  | row E sz xs=>rfl
  | box cs=>simp [MObj.kill,PV.killL_none]
  | prow E sz n c=>simp [MObj.kill,PV.kill_none]
  | map s clk m => 
   have:(fun k=>(m k).map fun p=>(p.1.kill fun _=>false,p.2))=m:=by funext k;cases m k<;>simp [PV.kill_none]
   simp only [MObj.kill,this];rfl
theorem a7f {P:Program} {st:St} {Ke:Kx (PV→St→Prop)} {kx:Kx (RV→St→Prop)} {d f ps as r ids B} (ha:P5 st.mem ps=some as) (hb:boxIds ps=ids) (hn:ids.Nodup) (hlt:ids.all (· < d5 d)=true) (hB:b2g st.mem ids B) (hr:ps.all PV.noOwn=true)
 (h:f9 P f as (.ret (.val r) []) B) (hK:Ke.k (.val r) st):KC P st d f ps (Ke:=Ke) (kx:=kx):=by
 unfold KC
 refine .inl ?_
 unfold a2z
 rw [ha]
 refine ⟨by rw [hb];exact hn,by rw [hb];exact hlt,.ret (.val r) [],B,h,by rw [hb];exact b27 hB,rfl,.inl hr,?_⟩
 have e:(fun i=>decide (d5 d≤i) && decide (i < d5 d+([]:List Row).length))=fun _=>false:=by
  funext i
  simp only [List.length_nil,Nat.add_zero,Bool.and_eq_false_imp,decide_eq_true_eq,decide_eq_false_iff_not]
  omega
 rw [e,a7w]
 simp only [S5,hb]
 rw [a6k hB]
 exact hK
end Go.PW
end
section
namespace Go.PW
open Go.RowKit Go.KP
def a4u {α:Type} (r:α→RV) (z:RV) (l:List α) (i:Nat):List RV:=(l.take i).map r++List.replicate (l.length - i) z
theorem b24 {α:Type} (r:α→RV) (z:RV) (l:List α):a4u r z l 0=List.replicate l.length z:=by simp [a4u]
theorem b5p {α:Type} (r:α→RV) (z:RV) (l:List α):a4u r z l l.length=l.map r:=by simp [a4u]
theorem b5o {α:Type} (r:α→RV) (z:RV) (l:List α) (i:Nat) (h:i≤l.length):(a4u r z l i).length=l.length:=by simp [a4u];omega
theorem b5n {α:Type} (r:α→RV) (z:RV) (l:List α) (i:Nat) (h:i < l.length):(a4u r z l i).set i (r l[i])=a4u r z l (i+1):=by
 unfold a4u
 have h1:l.length - i=(l.length - (i+1))+1:=by omega
 have h2:((l.take i).map r).length=i:=by simp;omega
 rw [h1,List.replicate_succ,List.set_append_right _ _ (by omega),h2,Nat.sub_self,List.set_cons_zero]
 rw [List.take_add_one,List.getElem?_eq_getElem h,List.map_append,List.append_assoc]
 rfl
theorem b95 {α:Type} (r:α→RV) (z:RV) (l:List α) (i:Nat) (h:i < l.length):(a4u r z l i)[i]?.getD .nilptr=z:=by
 unfold a4u
 have h1:l.length - i=(l.length - (i+1))+1:=by omega
 have h2:((l.take i).map r).length=i:=by simp;omega
 rw [h1,List.replicate_succ,List.getElem?_append_right (by omega),h2]
 simp
def X3 {α:Type} (sz id:Nat):List α→PV
 | []=>.emp sz
 | _ :: _=>.own id
def a28 {α:Type} (E sz:Nat) (r:α→RV):List α→MObj
 | []=>.dead
 | x :: xs=>.row E sz ((x :: xs).map r)
@[simp] theorem ownOr_nil {α:Type} (sz id:Nat):X3 sz id ([]:List α)=.emp sz:=rfl
@[simp] theorem ownOr_cons {α:Type} (sz id:Nat) (x:α) (xs:List α):X3 sz id (x :: xs)=.own id:=rfl
@[simp] theorem rowOr_nil {α:Type} (E sz:Nat) (r:α→RV):a28 E sz r []=.dead:=rfl
@[simp] theorem rowOr_cons {α:Type} (E sz:Nat) (r:α→RV) (x:α) (xs:List α):a28 E sz r (x :: xs)=.row E sz (r x :: xs.map r):=rfl
theorem b0v {α:Type} (sz id:Nat) (xs:List α) (x:α):X3 sz id (xs++[x])=.own id:=by cases xs<;>rfl
theorem b0p {α:Type} (E sz:Nat) (r:α→RV) (xs:List α) (x:α):a28 E sz r (xs++[x])=.row E sz (xs.map r++[r x]):=by cases xs<;>simp [a28]
theorem Le.mkD [GF] {st:St} (le:List (Nat×PV)) (lm:List (Nat×MObj)) (h1:∀ kp∈le,st.env kp.1=kp.2) (h2:∀ kp∈lm,kp.2=.dead∨st.mem kp.1=kp.2):Le st ⟨Q0 le,P6 lm⟩:=by
 refine Le.drop (fun i=>?_) (fun x=>?_)
 · show P6 lm i=st.mem i∨P6 lm i=.dead
   induction lm with
   | nil=>exact .inr rfl
   | cons kp lm ih=>
    obtain ⟨k,o⟩:=kp
    simp only [P6]
    split
    · rename_i e;subst e
      rcases h2 (i,o) (by simp) with h | h
      · exact .inr h
      · exact .inl h.symm
    · exact ih fun kp hkp=>h2 kp (by simp [hkp])
 · show Wk (st.env x) (Q0 le x)
   induction le with
   | nil=>exact .undef _
   | cons kp le ih=>
    obtain ⟨k,p⟩:=kp
    simp only [Q0]
    split
    · rename_i e;subst e;rw [h1 (x,p) (by simp)];exact .refl p
    · exact ih fun kp hkp=>h1 kp (by simp [hkp])
@[simp] theorem rvTarget_len (x:LTarget):(b0n x).cells.length=3:=rfl
@[simp] theorem rvPeer_len (x:LPeer):(c3x x).cells.length=6:=rfl
def rvGroup (x:LGroup):RV:=.agg [tx x.name,num x.age,.list 3 (x.targets.map b0n)]
@[simp] theorem rvGroup_len (x:LGroup):(rvGroup x).cells.length=3:=rfl
def b8d (x:LRule):RV:=.agg [tx x.name,.list 1 (x.words.map tx)]
@[simp] theorem rvRule_len (x:LRule):(b8d x).cells.length=2:=rfl
def c3w (x:LPolicy):RV:=.agg [tx x.reportTo,.list 1 (x.uris.map tx),.list 2 (x.rules.map b8d)]
@[simp] theorem rvPolicy_len (x:LPolicy):(c3w x).cells.length=3:=rfl
def b5x (x:LViolation):RV:=.agg [tx x.document,tx x.referrer,tx x.blocked,tx x.source,tx x.directive,tx x.sample,num x.line,num x.column,.bool x.redirected]
@[simp] theorem c3l (x:LViolation):(b5x x).cells.length=9:=rfl
def b0o (x:LReport):RV:=.agg [num x.id,num x.born,num x.tries,tx x.body]
@[simp] theorem rvReport_len (x:LReport):(b0o x).cells.length=4:=rfl
def rvQueue (x:LQueue):RV:=.agg [.list 4 (x.items.map b0o),.list 1 (x.recent.map tx)]
@[simp] theorem rvQueue_len (x:LQueue):(rvQueue x).cells.length=2:=rfl
def b28 (x:LChannel):RV:=.agg [tx x.group.name,num x.group.age,.list 3 (x.group.targets.map b0n),.list 6 (x.peers.map c3x),.list 4 (x.queue.items.map b0o),.list 1 (x.queue.recent.map tx)]
@[simp] theorem rvChannel_len (x:LChannel):(b28 x).cells.length=6:=rfl
def c0b (x:LEntry):RV:=.agg [num x.kind,num x.id,num x.at_]
@[simp] theorem rvEntry_len (x:LEntry):(c0b x).cells.length=3:=rfl
def P3 (x:LWire):RV:=.agg [num x.at_,num x.status,tx x.group,tx x.url,.list 1 (x.ids.map num),tx x.body,.bool x.lost]
@[simp] theorem rvWire_len (x:LWire):(P3 x).cells.length=7:=rfl
def rvPipe (x:LPipe):RV:=.agg [.list 6 (x.channels.map b28),tx x.policy.reportTo,.list 1 (x.policy.uris.map tx),.list 2 (x.policy.rules.map b8d),num x.now,num x.next,.list 3 (x.log.map c0b),.list 7 (x.wires.map P3)]
@[simp] theorem rvPipe_len (x:LPipe):(rvPipe x).cells.length=8:=rfl
def rvEvent (x:LEvent):RV:=.agg [num x.kind,num x.draw,num x.status,num x.ticks,tx x.text,tx x.name,tx x.violation.document,tx x.violation.referrer,tx x.violation.blocked,tx x.violation.source,tx x.violation.directive,tx x.violation.sample,num x.violation.line,num x.violation.column,.bool x.violation.redirected,.bool x.lost]
@[simp] theorem rvEvent_len (x:LEvent):(rvEvent x).cells.length=16:=rfl
def N6 (x:LParcel):RV:=.agg [num x.id,num x.age,tx x.body]
@[simp] theorem rvParcel_len (x:LParcel):(N6 x).cells.length=3:=rfl
def O9 (x:LBox):RV:=.agg [.list 1 (x.ids.map num),.list 1 (x.times.map num),.list 1 (x.bodies.map tx)]
@[simp] theorem rvBox_len (x:LBox):(O9 x).cells.length=3:=rfl
end Go.PW
end
section
namespace Go.KP
def hexs:Tx:=[48,49,50,51,52,53,54,55,56,57,97,98,99,100,101,102]
def qb (c:UInt8):Tx:=if c.toNat=34∨c.toNat=92 then [92,c] else if 32≤c.toNat∧c.toNat≤126 then [c] else [92,117,48,48,hexs.getD (c.toNat / 16) 0,hexs.getD (c.toNat % 16) 0]
def a08 (t:Tx):Tx:=t.flatMap qb
def a00 (t:Tx):Tx:=34 :: (a08 t++[34])
theorem qb_len (c:UInt8):(qb c).length≤6:=by 
 unfold qb
 split
 · simp
 · split<;>simp
theorem a3q (t:Tx):(a08 t).length≤6*t.length:=by
 induction t with
 | nil=>simp [a08]
 | cons c t ih=>have:=qb_len c;simp only [a08,List.flatMap_cons,List.length_append,List.length_cons] at *;omega
theorem a4b (t:Tx):(a00 t).length≤6*t.length+2:=by have:=a3q t;simp [a00];omega
theorem b0t (t:Tx) (i:Nat) (h:i < t.length):a08 (t.take (i+1))=a08 (t.take i)++qb t[i]:=by
 unfold a08;rw [List.take_add_one,List.getElem?_eq_getElem h,List.flatMap_append];simp
inductive LJson where
 | mk (kind num:Int) (text:Tx) (names:List Tx) (items:List LJson)
def LJson.kind:LJson→Int | .mk k _ _ _ _=>k
def LJson.num:LJson→Int | .mk _ n _ _ _=>n
def LJson.text:LJson→Tx | .mk _ _ t _ _=>t
def LJson.names:LJson→List Tx | .mk _ _ _ ns _=>ns
def LJson.items:LJson→List LJson | .mk _ _ _ _ is=>is
def T3:Int→List Tx→List Tx→List Tx
 | 6,n :: ns,t :: ts=>(a00 n++58 :: t) :: T3 6 ns ts
 | _,_,ts=>ts
theorem a0s:∀ (k:Int) (ns ts:List Tx),(T3 k ns ts).length=ts.length
 | _,[],ts=>by unfold T3;split<;>simp_all
 | _,_ :: _,[]=>by unfold T3;split<;>simp_all
 | k,n :: ns,t :: ts=>by
  unfold T3
  split
  · rename_i h1 h2;cases h1;cases h2;simp [a0s 6 ns ts]
  · rfl
theorem a1d {k:Int} (hk:k≠6) (ns ts:List Tx):T3 k ns ts=ts:=by
 unfold T3;split
 · exact absurd rfl hk
 · rfl
theorem a65:∀ (ns ts:List Tx),ns.length=ts.length→∀ i (h1:i < ns.length) (h2:i < ts.length) (h3:i < (T3 6 ns ts).length),(T3 6 ns ts)[i]=a00 ns[i]++58 :: ts[i]
 | [],_,_,i,h1,_,_=>by simp at h1
 | n :: ns,[],h,_,_,_,_=>by simp at h
 | n :: ns,t :: ts,h,0,_,_,_=>by simp [T3]
 | n :: ns,t :: ts,h,i+1,h1,h2,h3=>by
  simp only [T3,List.getElem_cons_succ]
  exact a65 ns ts (by simpa using h) i _ _ _
theorem b7j (n:Nat) (h:n < 1000000000):(a0p n).length≤9:=b08 8 n (by omega)
end Go.KP
end
section
namespace Go.PW
open Go.KP
mutual
def J9:LJson→RV
 | .mk k n t ns is=>.agg [num k,num n,tx t,.list 1 (ns.map tx),.list 5 (Z6 is)]
def Z6:List LJson→List RV
 | []=>[]
 | x :: xs=>J9 x :: Z6 xs
end
theorem b5y (l:List LJson):Z6 l=l.map J9:=by
 induction l with
 | nil=>rfl
 | cons x xs ih=>simp [Z6,ih]
theorem p7 (k n:Int) (t:Tx) (ns:List Tx) (is:List LJson):J9 (.mk k n t ns is)=.agg [num k,num n,tx t,.list 1 (ns.map tx),.list 5 (is.map J9)]:=by rw [J9,b5y]
end Go.PW
end
section
namespace Go.KP
def X8 (k:Nat):Int:=(k:Nat)
theorem zS_len {α:Type} (z:α→Nat) (l:List α):l.length≤zS z l:=Nat.le_add_right _ _
end Go.KP
end
section
namespace Go.KP
inductive JR (α:Type) where
 | err (c:Int)
 | ok (v:α) (i:Nat)
def jws (c:UInt8):Bool:=decide (c.toNat=32∨c.toNat=9∨c.toNat=10∨c.toNat=13)
def d3 (t:Tx) (i:Nat):Nat:=i+((t.drop i).takeWhile jws).length
theorem b6w {t:Tx} {i:Nat} (h:i < t.length) (hw:jws t[i]=true):d3 t i=d3 t (i+1):=by
 unfold d3
 rw [List.drop_eq_getElem_cons h,List.takeWhile_cons,if_pos hw]
 simp;omega
theorem b6x {t:Tx} {i:Nat} (h:i < t.length) (hw:jws t[i]=false):d3 t i=i:=by
 unfold d3
 rw [List.drop_eq_getElem_cons h,List.takeWhile_cons,if_neg (by simp [hw])]
 simp
theorem b3i {t:Tx} {i:Nat} (h:t.length≤i):d3 t i=i:=by
 unfold d3
 rw [List.drop_eq_nil_of_le h];simp
theorem R2 {t:Tx} {i:Nat} (h:i≤t.length):d3 t i≤t.length:=by
 have h1:=(List.takeWhile_sublist (p:=jws) (l:=t.drop i)).length_le
 rw [List.length_drop] at h1
 unfold d3;omega
def a2u (c:UInt8):Option Nat:=if 48≤c.toNat∧c.toNat≤57 then some (c.toNat - 48) else if 97≤c.toNat∧c.toNat≤102 then some (c.toNat - 87) else if 65≤c.toNat∧c.toNat≤70 then some (c.toNat - 55) else none
theorem a8a {c:UInt8} {n:Nat} (h:a2u c=some n):n < 16:=by
 unfold a2u at h
 split at h
 · cases h;omega
 · split at h
   · cases h;omega
   · split at h
     · cases h;omega
     · cases h
def a3a (c:UInt8):Option UInt8:=if c=34∨c=92∨c=47 then some c else if c=98 then some 8 else if c=102 then some 12 else if c=110 then some 10 else if c=114 then some 13 else if c=116 then some 9 else none
def a8y (t:Tx) (i:Nat):Option (UInt8×Nat):=
 if i < t.length then match a3a (t.getD i 0) with
  | some b=>some (b,i+1)
  | none=>if t.getD i 0=117∧i+5≤t.length∧t.getD (i+1) 0=48∧t.getD (i+2) 0=48 then match a2u (t.getD (i+3) 0),a2u (t.getD (i+4) 0) with
   | some a,some b=>some (UInt8.ofNat (16*a+b),i+5)
   | _,_=>none
   else none
 else none
theorem b41 {t:Tx} {i:Nat} {b:UInt8} {k:Nat} (h:a8y t i=some (b,k)):i < k∧k≤t.length:=by
 unfold a8y at h
 split at h
 · rename_i hi
   split at h
   · cases h;omega
   · split at h
     · rename_i hh
       split at h
       · cases h;omega
       · cases h
     · cases h
 · cases h
def b4z (t:Tx):Nat→Nat→Tx→JR Tx
 | 0,_,_=>.err 3
 | n+1,i,out=>if i < t.length then
  (if t.getD i 0=34 then (if 120 < out.length then .err 8 else .ok out (i+1))
   else if t.getD i 0=92 then (match a8y t (i+1) with | some (b,k)=>b4z t n k (out++[b]) | none=>.err 3)
   else if 32≤(t.getD i 0).toNat∧(t.getD i 0).toNat≤126 then b4z t n (i+1) (out++[t.getD i 0]) else .err 3)
  else .err 3
def a1i (t:Tx) (i:Nat):JR Tx:=if i < t.length∧t.getD i 0=34 then b4z t (t.length+1) (i+1) [] else .err 3
theorem b4y {t:Tx}:∀ {n i:Nat} {out v:Tx} {k:Nat},b4z t n i out=.ok v k→v.length≤120∧i < k∧k≤t.length
 | 0,i,out,v,k,h=>by cases h
 | n+1,i,out,v,k,h=>by
  unfold b4z at h
  split at h
  · rename_i hi
    split at h
    · split at h
      · cases h
      · cases h;omega
    · split at h
      · split at h
        · rename_i b k2 hb
          have:=b4y h
          have:=b41 hb
          omega
        · cases h
      · split at h
        · have:=b4y h;omega
        · cases h
  · cases h
theorem a0r {t:Tx} {i:Nat} {v:Tx} {k:Nat} (h:a1i t i=.ok v k):v.length≤120∧i < k∧k≤t.length:=by
 unfold a1i at h
 split at h
 · have:=b4y h;omega
 · cases h
def a0h (t:Tx) (i:Nat):Nat:=i+((t.drop i).takeWhile S1).length
theorem b3n {t:Tx} {i:Nat} (h:i < t.length) (hw:S1 t[i]=true):a0h t i=a0h t (i+1):=by
 unfold a0h
 rw [List.drop_eq_getElem_cons h,List.takeWhile_cons,if_pos hw]
 simp;omega
theorem b1g {t:Tx} {i:Nat} (h:i < t.length) (hw:S1 t[i]=false):a0h t i=i:=by
 unfold a0h
 rw [List.drop_eq_getElem_cons h,List.takeWhile_cons,if_neg (by simp [hw])]
 simp
theorem a8z {t:Tx} {i:Nat} (h:t.length≤i):a0h t i=i:=by
 unfold a0h
 rw [List.drop_eq_nil_of_le h];simp
theorem c42 (t:Tx) (i:Nat):i≤a0h t i:=by unfold a0h;omega
theorem c41 {t:Tx} {i:Nat} (h:i≤t.length):a0h t i≤t.length:=by
 have h1:=(List.takeWhile_sublist (p:=S1) (l:=t.drop i)).length_le
 rw [List.length_drop] at h1
 unfold a0h;omega
def a1r (t:Tx) (i:Nat):Nat:=if i < t.length∧t.getD i 0=45 then i+1 else i
theorem b1d {t:Tx} {i:Nat} (h:i≤t.length):i≤a1r t i∧a1r t i≤t.length:=by unfold a1r;split<;>omega
def a09 (t:Tx) (i:Nat):Nat:=a0h t (a1r t i)
theorem a71 {t:Tx} {i:Nat} (h:i≤t.length):i≤a09 t i∧a09 t i≤t.length:=by
 have h1:=b1d h
 have h2:=c42 t (a1r t i)
 have h3:=c41 h1.2
 unfold a09;omega
def a44 (t:Tx) (i:Nat):JR Int:=match U1 ((t.take (a09 t i)).drop i) with
 | none=>.err 3
 | some n=>if -999999999≤n∧n≤999999999 then .ok n (a09 t i) else .err 4
def jnull:Tx:=[110,117,108,108]
def jtrue:Tx:=[116,114,117,101]
def jfalse:Tx:=[102,97,108,115,101]
def N9 (t w:Tx) (i:Nat):Bool:=decide ((t.take (i+w.length)).drop i=w)
def a9m (V:Nat→JR LJson) (t:Tx) (e:UInt8) (K:Nat→List Tx→List LJson→JR (List Tx×List LJson)) (k:Nat) (ns:List Tx) (xs:List LJson):JR (List Tx×List LJson):=match V k with
 | .err c=>.err c
 | .ok x k=>if 12 < xs.length+1 then .err 6 else
  if d3 t k < t.length∧t.getD (d3 t k) 0=e then .ok (ns,xs++[x]) (d3 t k+1)
  else if d3 t k < t.length∧t.getD (d3 t k) 0=44 then K (d3 t k+1) ns (xs++[x]) else .err 3
def a3j (V:Nat→JR LJson) (t:Tx) (obj:Bool) (e:UInt8):Nat→Nat→List Tx→List LJson→JR (List Tx×List LJson)
 | 0,_,_,_=>.err 6
 | n+1,i,ns,xs=>match obj with
  | false=>a9m V t e (a3j V t obj e n) (d3 t i) ns xs
  | true=>match a1i t (d3 t i) with
   | .err c=>.err c
   | .ok nm k=>if nm∈ns then .err 13 else
    if d3 t k < t.length∧t.getD (d3 t k) 0=58 then a9m V t e (a3j V t obj e n) (d3 t k+1) (ns++[nm]) xs else .err 3
def a6q (V:Nat→JR LJson) (t:Tx) (obj:Bool) (e:UInt8) (i:Nat):JR (List Tx×List LJson):=
 if d3 t i < t.length∧t.getD (d3 t i) 0=e then .ok ([],[]) (d3 t i+1) else a3j V t obj e 13 (d3 t i) [] []
def jmk (k:Int):JR (List Tx×List LJson)→JR LJson
 | .err c=>.err c
 | .ok v i=>.ok (.mk k 0 [] v.1 v.2) i
def a63 (t:Tx):Nat→Nat→JR LJson
 | d,i=>if d3 t i < t.length then
  (match t.getD (d3 t i) 0 with
   | 110=>if N9 t jnull (d3 t i) then .ok (.mk 1 0 [] [] []) (d3 t i+4) else .err 3
   | 116=>if N9 t jtrue (d3 t i) then .ok (.mk 2 1 [] [] []) (d3 t i+4) else .err 3
   | 102=>if N9 t jfalse (d3 t i) then .ok (.mk 2 0 [] [] []) (d3 t i+5) else .err 3
   | 34=>(match a1i t (d3 t i) with | .err c=>.err c | .ok v k=>.ok (.mk 4 0 v [] []) k)
   | 91=>(match d with | 0=>.err 12 | d+1=>jmk 5 (a6q (a63 t d) t false 93 (d3 t i+1)))
   | 123=>(match d with | 0=>.err 12 | d+1=>jmk 6 (a6q (a63 t d) t true 125 (d3 t i+1)))
   | _=>(match a44 t (d3 t i) with | .err c=>.err c | .ok n k=>.ok (.mk 3 n [] [] []) k))
  else .err 3
def a6p (t:Tx):JR LJson:=match a63 t 4 0 with
 | .err c=>.err c
 | .ok x k=>if d3 t k=t.length then .ok x t.length else .err 3
def R3:Nat→LJson→Prop
 | d,.mk k n t ns is=>(k=1∧n=0∧t=[]∧ns=[]∧is=[])∨(k=2∧(n=0∨n=1)∧t=[]∧ns=[]∧is=[])∨(k=3∧(-999999999≤n∧n≤999999999)∧t=[]∧ns=[]∧is=[]) ∨
  (k=4∧n=0∧t.length≤120∧ns=[]∧is=[]) ∨
  (n=0∧t=[]∧is.length≤12∧(k=5∧ns=[]∨k=6∧ns.length=is.length∧ns.Nodup∧∀ s∈ns,s.length≤120)∧match d with | 0=>False | d+1=>∀ x∈is,R3 d x)
def a38 (obj:Bool) (ns:List Tx) (xs:List LJson):Prop:=match obj with
 | false=>ns=[]
 | true=>ns.length=xs.length∧ns.Nodup∧∀ s∈ns,s.length≤120
theorem c2k {V:Nat→JR LJson} {t:Tx} {obj:Bool} {e:UInt8} {g:LJson→Prop} (hV:∀ i x k,V i=.ok x k→g x∧k≤t.length) :
 ∀ {n i:Nat} {ns:List Tx} {xs:List LJson} {v:List Tx×List LJson} {k:Nat},a38 obj ns xs→xs.length≤12→(∀ x∈xs,g x)→a3j V t obj e n i ns xs=.ok v k →
  a38 obj v.1 v.2∧v.2.length≤12∧(∀ x∈v.2,g x)∧k≤t.length:=by
 intro n
 induction n with
 | zero=>intro i ns xs v k _ _ _ h;cases h
 | succ n ih=>
  have item:∀ {p:Nat} {ns:List Tx} {xs:List LJson} {v:List Tx×List LJson} {k:Nat},(∀ x,a38 obj ns (xs++[x]))→xs.length≤12→(∀ x∈xs,g x)→a9m V t e (a3j V t obj e n) p ns xs=.ok v k →
   a38 obj v.1 v.2∧v.2.length≤12∧(∀ x∈v.2,g x)∧k≤t.length:=by
   intro p ns xs v k h1 h2 h3 h
   unfold a9m at h
   split at h
   · cases h
   · rename_i x k2 hx
     obtain ⟨g1,g2⟩:=hV _ _ _ hx
     have h3':∀ y∈xs++[x],g y:=fun y hy=>by
      rcases List.mem_append.1 hy with hy | hy
      · exact h3 y hy
      · rw [List.mem_singleton.1 hy];exact g1
     split at h
     · cases h
     · rename_i h12
       split at h
       · rename_i hh
         cases h
         exact ⟨h1 x,by simp;omega,h3',by omega⟩
       · split at h
         · exact ih (h1 x) (by simp;omega) h3' h
         · cases h
  intro i ns xs v k h1 h2 h3 h
  unfold a3j at h
  cases obj with
  | false=>exact item (fun x=>h1) h2 h3 h
  | true=>
   simp only [] at h
   split at h
   · cases h
   · rename_i nm k2 hq
     have hl:=(a0r hq).1
     split at h
     · cases h
     · rename_i hnm
       split at h
       · refine item (fun x=>?_) h2 h3 h
         obtain ⟨a1,a2,a3⟩:=h1
         refine ⟨by simp [a1],?_,fun s hs=>?_⟩
         · rw [List.nodup_append]
           refine ⟨a2,by simp,fun a ha b hb=>?_⟩
           rw [List.mem_singleton.1 hb]
           rintro rfl
           exact hnm ha
         · rcases List.mem_append.1 hs with hs | hs
           · exact a3 s hs
           · rw [List.mem_singleton.1 hs];exact hl
       · cases h
theorem b1f {V:Nat→JR LJson} {t:Tx} {obj:Bool} {e:UInt8} {g:LJson→Prop} (hV:∀ i x k,V i=.ok x k→g x∧k≤t.length) {i:Nat} {v:List Tx×List LJson} {k:Nat} (h:a6q V t obj e i=.ok v k) :
 a38 obj v.1 v.2∧v.2.length≤12∧(∀ x∈v.2,g x)∧k≤t.length:=by
 have h0:a38 obj [] []:=by cases obj<;>simp [a38]
 unfold a6q at h
 split at h
 · cases h
   exact ⟨h0,by simp,by simp,by omega⟩
 · exact c2k hV h0 (by simp) (by simp) h
theorem b87 {k0:Int} {r:JR (List Tx×List LJson)} {x:LJson} {k:Nat} (h:jmk k0 r=.ok x k):∃ v,r=.ok v k∧x=.mk k0 0 [] v.1 v.2:=by
 cases r with
 | err c=>cases h
 | ok v i=>cases h;exact ⟨v,rfl,rfl⟩
theorem V7 {t w:Tx} {i:Nat} (h:N9 t w i=true):i+w.length≤t.length∨w=[]:=by
 unfold N9 at h
 have h:=of_decide_eq_true h
 have h1:=congrArg List.length h
 simp only [List.length_drop,List.length_take] at h1
 by_cases hw:w=[]
 · exact .inr hw
 · have:=List.length_pos_iff.2 hw
   left;omega
theorem c0v (t:Tx):∀ (d i:Nat) (x:LJson) (k:Nat),a63 t d i=.ok x k→R3 d x∧k≤t.length:=by
 intro d
 induction d with
 | zero=>
  intro i x k h
  unfold a63 at h
  split at h
  · rename_i hi
    split at h
    · split at h
      · rename_i hw;cases h;exact ⟨by simp [R3],by rcases V7 hw with h | h;exact h;cases h⟩
      · cases h
    · split at h
      · rename_i hw;cases h;exact ⟨by simp [R3],by rcases V7 hw with h | h;exact h;cases h⟩
      · cases h
    · split at h
      · rename_i hw;cases h;exact ⟨by simp [R3],by rcases V7 hw with h | h;exact h;cases h⟩
      · cases h
    · split at h
      · cases h
      · rename_i v k2 hq;cases h;exact ⟨by simp [R3,(a0r hq).1],(a0r hq).2.2⟩
    · cases h
    · cases h
    · split at h
      · cases h
      · rename_i n k2 hq
        cases h
        unfold a44 at hq
        split at hq
        · cases hq
        · split at hq
          · rename_i hn;cases hq;exact ⟨by simp [R3,hn],(a71 (Nat.le_of_lt hi)).2⟩
          · cases hq
  · cases h
 | succ d ih=>
  intro i x k h
  unfold a63 at h
  split at h
  · rename_i hi
    split at h
    · split at h
      · rename_i hw;cases h;exact ⟨by simp [R3],by rcases V7 hw with h | h;exact h;cases h⟩
      · cases h
    · split at h
      · rename_i hw;cases h;exact ⟨by simp [R3],by rcases V7 hw with h | h;exact h;cases h⟩
      · cases h
    · split at h
      · rename_i hw;cases h;exact ⟨by simp [R3],by rcases V7 hw with h | h;exact h;cases h⟩
      · cases h
    · split at h
      · cases h
      · rename_i v k2 hq;cases h;exact ⟨by simp [R3,(a0r hq).1],(a0r hq).2.2⟩
    · simp only [] at h
      obtain ⟨v,h1,rfl⟩:=b87 h
      obtain ⟨g1,g2,g3,g4⟩:=b1f ih h1
      exact ⟨.inr (.inr (.inr (.inr ⟨rfl,rfl,g2,.inl ⟨rfl,g1⟩,g3⟩))),g4⟩
    · simp only [] at h
      obtain ⟨v,h1,rfl⟩:=b87 h
      obtain ⟨g1,g2,g3,g4⟩:=b1f ih h1
      exact ⟨.inr (.inr (.inr (.inr ⟨rfl,rfl,g2,.inr ⟨rfl,g1⟩,g3⟩))),g4⟩
    · split at h
      · cases h
      · rename_i n k2 hq
        cases h
        unfold a44 at hq
        split at hq
        · cases hq
        · split at hq
          · rename_i hn;cases hq;exact ⟨by simp [R3,hn],(a71 (Nat.le_of_lt hi)).2⟩
          · cases hq
  · cases h
theorem a7z {t:Tx} {x:LJson} {k:Nat} (h:a6p t=.ok x k):R3 4 x:=by
 unfold a6p at h
 split at h
 · cases h
 · rename_i x' k' hx
   split at h
   · cases h;exact (c0v t 4 0 _ _ hx).1
   · cases h
end Go.KP
end
section
namespace Go.KP
def a2t (t:Tx) (i:Nat):Nat:=
 if i < t.length then match a3a (t.getD i 0) with
  | some _=>i+1
  | none=>if t.getD i 0=117∧i+5≤t.length∧t.getD (i+1) 0=48∧t.getD (i+2) 0=48 then i+5 else i+1
 else i
theorem c40 {t:Tx} {i:Nat} (h:i≤t.length):i≤a2t t i∧a2t t i≤t.length:=by
 unfold a2t
 split
 · split
   · omega
   · split<;>omega
 · omega
def Q1 (t:Tx) (i:Nat):Int×Nat×Int:=match a44 t i with
 | .ok n k=>(n,k,0)
 | .err e=>(0,i,e)
def a14 (t:Tx):Nat→Nat→Tx→Tx×Nat×Int
 | 0,i,_=>([],i,3)
 | n+1,i,out=>if i < t.length then
  (if t.getD i 0=34 then (out,i+1,if 120 < out.length then 8 else 0)
   else if t.getD i 0=92 then (match a8y t (i+1) with | some (b,k)=>a14 t n k (out++[b]) | none=>([],a2t t (i+1),3))
   else if 32≤(t.getD i 0).toNat∧(t.getD i 0).toNat≤126 then a14 t n (i+1) (out++[t.getD i 0]) else ([],i+1,3))
  else ([],i,3)
theorem b1c (t:Tx):∀ n i out,b4z t n i out=if (a14 t n i out).2.2=0 then .ok (a14 t n i out).1 (a14 t n i out).2.1 else .err (a14 t n i out).2.2
 | 0,i,out=>rfl
 | n+1,i,out=>by
  unfold b4z a14
  split
  · split
    · by_cases h:120 < out.length<;>simp [h]
    · split
      · cases a8y t (i+1) with
        | some p=>exact b1c t n p.2 _
        | none=>rfl
      · split
        · exact b1c t n _ _
        · rfl
  · rfl
theorem b1b (t:Tx):∀ n i out,i≤t.length→(a14 t n i out).2.1≤t.length∧(a14 t n i out).1.length≤out.length+n
 | 0,i,out,h=>by simp [a14,h]
 | n+1,i,out,h=>by
  unfold a14
  split
  · split
    · simp;omega
    · split
      · cases hj:a8y t (i+1) with
        | some p=>
         have h1:=b41 (b:=p.1) (k:=p.2) hj
         have:=b1b t n p.2 (out++[p.1]) h1.2
         simp at this ⊢;omega
        | none=>
         have:=c40 (t:=t) (i:=i+1) (by omega)
         simp;omega
      · split
        · have:=b1b t n (i+1) (out++[t.getD i 0]) (by omega)
          simp at this ⊢;omega
        · simp;omega
  · simp [h]
def P7 (t:Tx) (i:Nat):Tx×Nat×Int:=if i < t.length∧t.getD i 0=34 then a14 t (t.length+1) (i+1) [] else ([],i,3)
theorem b3h (t:Tx) (i:Nat):a1i t i=if (P7 t i).2.2=0 then .ok (P7 t i).1 (P7 t i).2.1 else .err (P7 t i).2.2:=by
 unfold a1i P7
 split
 · exact b1c t _ _ _
 · rfl
theorem a3u (t:Tx) (i:Nat) (h:i≤t.length):(P7 t i).2.1≤t.length∧(P7 t i).1.length≤t.length+1:=by
 unfold P7
 split
 · have:=b1b t (t.length+1) (i+1) [] (by omega)
   simp at this;omega
 · simp [h]
abbrev VR:=LJson×Nat×Int
def a7t (r:VR):JR LJson:=if r.2.2=0 then .ok r.1 r.2.1 else .err r.2.2
abbrev IR:=List Tx×List LJson×Nat×Int
def b6f (r:IR):JR (List Tx×List LJson):=if r.2.2.2=0 then .ok (r.1,r.2.1) r.2.2.1 else .err r.2.2.2
def a2s (g:Nat→VR) (t:Tx) (e:UInt8) (K:Nat→List Tx→List LJson→IR) (k:Nat) (ns:List Tx) (xs:List LJson):IR:=
 if (g k).2.2≠0 then (ns,xs++[(g k).1],d3 t (g k).2.1,(g k).2.2)
 else if 12 < xs.length+1 then (ns,xs++[(g k).1],d3 t (g k).2.1,6)
 else if d3 t (g k).2.1 < t.length∧t.getD (d3 t (g k).2.1) 0=e then (ns,xs++[(g k).1],d3 t (g k).2.1+1,0)
 else if d3 t (g k).2.1 < t.length∧t.getD (d3 t (g k).2.1) 0=44 then K (d3 t (g k).2.1+1) ns (xs++[(g k).1])
 else (ns,xs++[(g k).1],d3 t (g k).2.1,3)
def Y5 (g:Nat→VR) (t:Tx) (obj:Bool) (e:UInt8):Nat→Nat→List Tx→List LJson→IR
 | 0,i,ns,xs=>(ns,xs,i,6)
 | n+1,i,ns,xs=>match obj with
  | false=>a2s g t e (Y5 g t obj e n) (d3 t i) ns xs
  | true=>
   if (P7 t (d3 t i)).2.2≠0 then (ns++[(P7 t (d3 t i)).1],xs,d3 t (P7 t (d3 t i)).2.1,(P7 t (d3 t i)).2.2)
   else if (P7 t (d3 t i)).1∈ns then (ns++[(P7 t (d3 t i)).1],xs,d3 t (P7 t (d3 t i)).2.1,13)
   else if d3 t (P7 t (d3 t i)).2.1 < t.length∧t.getD (d3 t (P7 t (d3 t i)).2.1) 0=58 then a2s g t e (Y5 g t obj e n) (d3 t (P7 t (d3 t i)).2.1+1) (ns++[(P7 t (d3 t i)).1]) xs
   else (ns++[(P7 t (d3 t i)).1],xs,d3 t (P7 t (d3 t i)).2.1,3)
def a11 (g:Nat→VR) (t:Tx) (obj:Bool) (e:UInt8) (i:Nat):IR:=
 if d3 t i < t.length∧t.getD (d3 t i) 0=e then ([],[],d3 t i+1,0) else Y5 g t obj e 13 (d3 t i) [] []
theorem c0z {V:Nat→JR LJson} {g:Nat→VR} {t:Tx} {e:UInt8} {K:Nat→List Tx→List LJson→JR (List Tx×List LJson)} {K':Nat→List Tx→List LJson→IR} (k:Nat) (hV:V k=a7t (g k)) (hK:∀ i ns xs,i≤t.length→K i ns xs=b6f (K' i ns xs)) (ns:List Tx) (xs:List LJson) :
 a9m V t e K k ns xs=b6f (a2s g t e K' k ns xs):=by
 unfold a9m a2s
 rw [hV]
 unfold a7t
 by_cases h0:(g k).2.2=0
 · simp only [h0,if_true,ne_eq,not_true,if_false]
   split
   · rfl
   · split
     · rfl
     · split
       · rename_i h;exact hK _ _ _ (by omega)
       · rfl
 · simp only [h0,if_false,ne_eq,not_false_eq_true,if_true]
   unfold b6f
   simp only [h0,if_false]
theorem b1e {V:Nat→JR LJson} {g:Nat→VR} {t:Tx} {obj:Bool} {e:UInt8} (hV:∀ k,k≤t.length→V k=a7t (g k)):∀ (n i:Nat) (ns:List Tx) (xs:List LJson),i≤t.length→a3j V t obj e n i ns xs=b6f (Y5 g t obj e n i ns xs)
 | 0,i,ns,xs,_=>rfl
 | n+1,i,ns,xs,hi=>by
  unfold a3j Y5
  have h1:=R2 hi
  cases obj with
  | false=>exact c0z _ (hV _ h1) (fun i ns xs hi=>b1e hV n i ns xs hi) _ _
  | true=>
   simp only []
   have h2:=(a3u t _ h1).1
   have h3:=R2 h2
   rw [b3h]
   by_cases h0:(P7 t (d3 t i)).2.2=0
   · simp only [h0,if_true,ne_eq,not_true,if_false]
     split
     · rfl
     · split
       · rename_i h;exact c0z _ (hV _ (by omega)) (fun i ns xs hi=>b1e hV n i ns xs hi) _ _
       · rfl
   · simp only [h0,if_false,ne_eq,not_false_eq_true,if_true]
     unfold b6f
     simp only [h0,if_false]
theorem jlist_R {V:Nat→JR LJson} {g:Nat→VR} {t:Tx} {obj:Bool} {e:UInt8} (hV:∀ k,k≤t.length→V k=a7t (g k)) {i:Nat} (hi:i≤t.length):a6q V t obj e i=b6f (a11 g t obj e i):=by
 unfold a6q a11
 split
 · rfl
 · exact b1e hV _ _ _ _ (R2 hi)
theorem b3m {g:Nat→VR} {t:Tx} {e:UInt8} {K':Nat→List Tx→List LJson→IR} (k:Nat) (hg:(g k).2.1≤t.length) (hK:∀ i ns xs,i≤t.length→(K' i ns xs).2.2.1≤t.length) (ns:List Tx) (xs:List LJson):(a2s g t e K' k ns xs).2.2.1≤t.length:=by
 have:=R2 hg
 unfold a2s
 split
 · exact this
 · split
   · exact this
   · split
     · simp only [];omega
     · split
       · exact hK _ _ _ (by omega)
       · exact this
theorem a64 {g:Nat→VR} {t:Tx} {obj:Bool} {e:UInt8} (hg:∀ k,k≤t.length→(g k).2.1≤t.length):∀ (n i:Nat) (ns:List Tx) (xs:List LJson),i≤t.length→(Y5 g t obj e n i ns xs).2.2.1≤t.length
 | 0,i,ns,xs,h=>h
 | n+1,i,ns,xs,hi=>by
  unfold Y5
  have h1:=R2 hi
  cases obj with
  | false=>exact b3m _ (hg _ h1) (fun i ns xs hi=>a64 hg n i ns xs hi) _ _
  | true=>
   simp only []
   have h2:=(a3u t _ h1).1
   have h3:=R2 h2
   split
   · exact h3
   · split
     · exact h3
     · split
       · exact b3m _ (hg _ (by omega)) (fun i ns xs hi=>a64 hg n i ns xs hi) _ _
       · exact h3
theorem b3l {g:Nat→VR} {t:Tx} {obj:Bool} {e:UInt8} (hg:∀ k,k≤t.length→(g k).2.1≤t.length) {i:Nat} (hi:i≤t.length):(a11 g t obj e i).2.2.1≤t.length:=by
 unfold a11
 split
 · simp only [];omega
 · exact a64 hg _ _ _ _ (R2 hi)
def X4 (g:Nat→VR) (t:Tx) (e:UInt8) (k n:Nat):Bool×Nat×Int:=
 if (g k).2.2≠0 then (false,d3 t (g k).2.1,(g k).2.2)
 else if 12 < n+1 then (false,d3 t (g k).2.1,6)
 else if d3 t (g k).2.1 < t.length∧t.getD (d3 t (g k).2.1) 0=e then (true,d3 t (g k).2.1+1,0)
 else if d3 t (g k).2.1 < t.length∧t.getD (d3 t (g k).2.1) 0=44 then (false,d3 t (g k).2.1+1,0)
 else (false,d3 t (g k).2.1,3)
theorem c4z (g:Nat→VR) (t:Tx) (e:UInt8) (K:Nat→List Tx→List LJson→IR) (k:Nat) (ns:List Tx) (xs:List LJson) :
 a2s g t e K k ns xs=if (X4 g t e k xs.length).1=false∧(X4 g t e k xs.length).2.2=0 then K (X4 g t e k xs.length).2.1 ns (xs++[(g k).1]) else (ns,xs++[(g k).1],(X4 g t e k xs.length).2):=by
 unfold a2s X4
 split
 · rename_i h;simp [h]
 · split
   · simp
   · split
     · simp
     · split<;>simp
def a3k (t:Tx) (k:Nat) (ns:List Tx):Nat×Int:=
 if (P7 t k).2.2≠0 then (d3 t (P7 t k).2.1,(P7 t k).2.2)
 else if (P7 t k).1∈ns then (d3 t (P7 t k).2.1,13)
 else if d3 t (P7 t k).2.1 < t.length∧t.getD (d3 t (P7 t k).2.1) 0=58 then (d3 t (P7 t k).2.1+1,0)
 else (d3 t (P7 t k).2.1,3)
theorem c2l (g:Nat→VR) (t:Tx) (obj:Bool) (e:UInt8) (n i:Nat) (ns:List Tx) (xs:List LJson):Y5 g t obj e (n+1) i ns xs=match obj with
 | false=>a2s g t e (Y5 g t obj e n) (d3 t i) ns xs
 | true=>if (a3k t (d3 t i) ns).2=0 then a2s g t e (Y5 g t obj e n) (a3k t (d3 t i) ns).1 (ns++[(P7 t (d3 t i)).1]) xs else (ns++[(P7 t (d3 t i)).1],xs,a3k t (d3 t i) ns):=by
 conv=>lhs;unfold Y5
 cases obj with
 | false=>rfl
 | true=>
  simp only []
  unfold a3k
  split
  · rename_i h;simp [h]
  · split
    · simp
    · split<;>simp
theorem c2o {g:Nat→VR} {t:Tx} {e:UInt8} {k n:Nat} (hg:(g k).2.1≤t.length):(X4 g t e k n).2.1≤t.length:=by
 have:=R2 hg
 unfold X4
 split
 · exact this
 · split
   · exact this
   · split
     · simp only [];omega
     · split
       · simp only [];omega
       · exact this
theorem c2m {t:Tx} {k:Nat} {ns:List Tx} (h:k≤t.length):(a3k t k ns).1≤t.length:=by
 have:=R2 (a3u t k h).1
 unfold a3k
 split
 · exact this
 · split
   · exact this
   · split
     · simp only [];omega
     · exact this
theorem b40 {g:Nat→VR} {t:Tx} {e:UInt8} {k n:Nat} (h:(X4 g t e k n).2.2=0):n+1≤12:=by
 unfold X4 at h
 split at h
 · rename_i h1;exact absurd h h1
 · split at h
   · simp at h
   · omega
def b2x (t:Tx) (L:Bool→Nat→IR) (i:Nat):VR:=if d3 t i < t.length then
 (match t.getD (d3 t i) 0 with
  | 110=>if N9 t jnull (d3 t i) then (.mk 1 0 [] [] [],d3 t i+4,0) else (.mk 1 0 [] [] [],d3 t i,3)
  | 116=>if N9 t jtrue (d3 t i) then (.mk 2 1 [] [] [],d3 t i+4,0) else (.mk 2 1 [] [] [],d3 t i,3)
  | 102=>if N9 t jfalse (d3 t i) then (.mk 2 0 [] [] [],d3 t i+5,0) else (.mk 2 0 [] [] [],d3 t i,3)
  | 34=>(.mk 4 0 (P7 t (d3 t i)).1 [] [],(P7 t (d3 t i)).2.1,(P7 t (d3 t i)).2.2)
  | 91=>(.mk 5 0 [] (L false (d3 t i)).1 (L false (d3 t i)).2.1,(L false (d3 t i)).2.2.1,(L false (d3 t i)).2.2.2)
  | 123=>(.mk 6 0 [] (L true (d3 t i)).1 (L true (d3 t i)).2.1,(L true (d3 t i)).2.2.1,(L true (d3 t i)).2.2.2)
  | _=>(.mk 3 (Q1 t (d3 t i)).1 [] [] [],(Q1 t (d3 t i)).2.1,(Q1 t (d3 t i)).2.2))
 else (.mk 0 0 [] [] [],d3 t i,3)
def b9p (obj:Bool):UInt8:=if obj then 125 else 93
def L0 (obj:Bool) (i:Nat):IR:=([],[],i,12)
def L1 (g:Nat→VR) (t:Tx) (obj:Bool) (i:Nat):IR:=a11 g t obj (b9p obj) (i+1)
def a3w (t:Tx):Nat→Nat→VR
 | 0=>b2x t L0
 | d+1=>b2x t (L1 (a3w t d) t)
theorem b85 (t:Tx) (i:Nat):a44 t i=if (Q1 t i).2.2=0 then .ok (Q1 t i).1 (Q1 t i).2.1 else .err (Q1 t i).2.2:=by
 unfold Q1
 cases h:a44 t i with
 | ok n k=>simp
 | err e=>
  have he:e≠0:=by
   unfold a44 at h
   split at h
   · cases h;decide
   · split at h
     · cases h
     · cases h;decide
  simp [he]
theorem b86 {t:Tx} {i:Nat} (h:i≤t.length):(Q1 t i).2.1≤t.length:=by
 unfold Q1
 cases hj:a44 t i with
 | ok n k=>
  unfold a44 at hj
  split at hj
  · cases hj
  · split at hj
    · cases hj;exact (a71 h).2
    · cases hj
 | err e=>exact h
theorem b49 {t:Tx} {L:Bool→Nat→IR} (hL:∀ o k,k < t.length→(L o k).2.2.1≤t.length) {i:Nat} (hi:i≤t.length):(b2x t L i).2.1≤t.length:=by
 have h1:=R2 hi
 unfold b2x
 split
 · rename_i hlt
   split
   · split
     · rename_i hw
       have:=V7 hw
       have e:jnull.length=4:=rfl
       simp only []
       rcases this with h | h
       · omega
       · cases h
     · exact h1
   · split
     · rename_i hw
       have:=V7 hw
       have e:jtrue.length=4:=rfl
       simp only []
       rcases this with h | h
       · omega
       · cases h
     · exact h1
   · split
     · rename_i hw
       have:=V7 hw
       have e:jfalse.length=5:=rfl
       simp only []
       rcases this with h | h
       · omega
       · cases h
     · exact h1
   · exact (a3u t _ h1).1
   · exact hL _ _ hlt
   · exact hL _ _ hlt
   · exact b86 h1
 · exact h1
theorem b7a (t:Tx):∀ d i,i≤t.length→(a3w t d i).2.1≤t.length
 | 0,i,hi=>b49 (fun o k hk=>Nat.le_of_lt hk) hi
 | d+1,i,hi=>b49 (fun o k hk=>b3l (fun k hk=>b7a t d k hk) hk) hi
def c0y (t:Tx) (d:Nat) (o:Bool) (k:Nat):JR LJson:=match d with
 | 0=>.err 12
 | d'+1=>jmk (if o then 6 else 5) (a6q (a63 t d') t o (b9p o) (k+1))
theorem jmk_of (k:Int) (r:IR):jmk k (b6f r)=a7t (.mk k 0 [] r.1 r.2.1,r.2.2.1,r.2.2.2):=by
 unfold b6f a7t
 by_cases h:r.2.2.2=0
 · rw [if_pos h,if_pos h];rfl
 · rw [if_neg h,if_neg h];rfl
theorem c2j (t:Tx) (d i:Nat):a63 t d i=if d3 t i < t.length then
 (match t.getD (d3 t i) 0 with
  | 110=>if N9 t jnull (d3 t i) then .ok (.mk 1 0 [] [] []) (d3 t i+4) else .err 3
  | 116=>if N9 t jtrue (d3 t i) then .ok (.mk 2 1 [] [] []) (d3 t i+4) else .err 3
  | 102=>if N9 t jfalse (d3 t i) then .ok (.mk 2 0 [] [] []) (d3 t i+5) else .err 3
  | 34=>(match a1i t (d3 t i) with | .err c=>.err c | .ok v k=>.ok (.mk 4 0 v [] []) k)
  | 91=>c0y t d false (d3 t i)
  | 123=>c0y t d true (d3 t i)
  | _=>(match a44 t (d3 t i) with | .err c=>.err c | .ok n k=>.ok (.mk 3 n [] [] []) k))
 else .err 3:=by
 cases d<;>(conv=>lhs;unfold a63)<;>rfl
theorem c4w (t:Tx) (k:Nat):(match a1i t k with | .err c=>.err c | .ok v k=>.ok (.mk 4 0 v [] []) k)=a7t (.mk 4 0 (P7 t k).1 [] [],(P7 t k).2.1,(P7 t k).2.2):=by
 rw [b3h]
 unfold a7t
 by_cases h:(P7 t k).2.2=0
 · simp [h]
 · simp [h]
theorem c4x (t:Tx) (k:Nat):(match a44 t k with | .err c=>.err c | .ok n k=>.ok (.mk 3 n [] [] []) k)=a7t (.mk 3 (Q1 t k).1 [] [] [],(Q1 t k).2.1,(Q1 t k).2.2):=by
 rw [b85]
 unfold a7t
 by_cases h:(Q1 t k).2.2=0
 · simp [h]
 · simp [h]
theorem c09 {t:Tx} {L:Bool→Nat→IR} {d i:Nat} (hn:∀ o k,k < t.length→c0y t d o k=a7t (.mk (if o then 6 else 5) 0 [] (L o k).1 (L o k).2.1,(L o k).2.2.1,(L o k).2.2.2)):a63 t d i=a7t (b2x t L i):=by
 rw [c2j]
 unfold b2x
 split
 · rename_i hlt
   split
   · split<;>rfl
   · split<;>rfl
   · split<;>rfl
   · exact c4w t _
   · exact hn false _ hlt
   · exact hn true _ hlt
   · exact c4x t _
 · rfl
theorem b69 (t:Tx):∀ d i,i≤t.length→a63 t d i=a7t (a3w t d i)
 | 0,i,hi=>c09 fun o k hk=>rfl
 | d+1,i,hi=>c09 fun o k hk=>by
  unfold c0y
  simp only []
  rw [jlist_R (fun k hk=>b69 t d k hk) hk]
  exact jmk_of _ _
def R1 (t:Tx):LJson×Int:=match a6p t with
 | .ok x _=>(x,0)
 | .err c=>(.mk 0 0 [] [] [],c)
theorem c13 (t:Tx):R1 t=if (a3w t 4 0).2.2=0 then (if d3 t (a3w t 4 0).2.1=t.length then ((a3w t 4 0).1,0) else (.mk 0 0 [] [] [],3)) else (.mk 0 0 [] [] [],(a3w t 4 0).2.2):=by
 unfold R1 a6p
 rw [b69 t 4 0 (Nat.zero_le _)]
 unfold a7t
 by_cases h:(a3w t 4 0).2.2=0
 · rw [if_pos h,if_pos h]
   simp only []
   by_cases h2:d3 t (a3w t 4 0).2.1=t.length
   · rw [if_pos h2,if_pos h2]
   · rw [if_neg h2,if_neg h2]
 · rw [if_neg h,if_neg h]
end Go.KP
end
section
namespace Go.KP
inductive JZ (α:Type) where
 | err (c:Int) (z:Nat)
 | ok (v:α) (i:Nat)
def JZ.jr {α:Type}:JZ α→JR α
 | .err c _=>.err c
 | .ok v i=>.ok v i
theorem a02 (t w:Tx) (i:Nat):w.isPrefixOf (t.drop i)=N9 t w i:=by
 unfold N9
 rw [Bool.eq_iff_iff,decide_eq_true_eq,List.isPrefixOf_iff_prefix,List.prefix_iff_eq_take,List.take_drop]
 exact eq_comm
theorem a8x (t:Tx) (c:UInt8) (i:Nat):N9 t [c] i=decide (i < t.length∧t.getD i 0=c):=by
 rw [← a02,Bool.eq_iff_iff,decide_eq_true_eq,List.isPrefixOf_iff_prefix]
 by_cases h:i < t.length
 · rw [List.drop_eq_getElem_cons h,List.cons_prefix_cons]
   have e:t.getD i 0=t[i]:=by simp [h]
   rw [e]
   constructor
   · rintro ⟨e,_⟩;exact ⟨h,e.symm⟩
   · rintro ⟨_,e⟩;exact ⟨e.symm,List.nil_prefix⟩
 · rw [List.drop_eq_nil_of_le (by omega)]
   constructor
   · intro hp
     have:=hp.length_le
     simp at this
   · rintro ⟨h1,_⟩;exact absurd h1 h
theorem a0q {t:Tx} {c:UInt8} {w:Tx} {i:Nat} (h:N9 t (c :: w) i=true):i < t.length∧t.getD i 0=c:=by
 rw [← a02,List.isPrefixOf_iff_prefix] at h
 by_cases hi:i < t.length
 · rw [List.drop_eq_getElem_cons hi,List.cons_prefix_cons] at h
   exact ⟨hi,by simp [hi,h.1]⟩
 · rw [List.drop_eq_nil_of_le (by omega)] at h
   have:=h.length_le
   simp at this
def a10 (t:Tx) (i:Nat):JZ Nat:=if i < t.length then (match a2u (t.getD i 0) with | some n=>.ok n (i+1) | none=>.err 3 (i+1)) else .err 3 i
def c39 (t:Tx) (i:Nat):JZ UInt8:=if i < t.length then (match a3a (t.getD i 0) with
 | some b=>.ok b (i+1)
 | none=>if t.getD i 0=117 then (if N9 t [48,48] (i+1) then (match a10 t (i+3) with
  | .err c z=>.err c z
  | .ok a k=>match a10 t k with
   | .err c z=>.err c z
   | .ok b k=>.ok (UInt8.ofNat (16*a+b)) k)
  else .err 3 (i+1)) else .err 3 (i+1))
 else .err 3 i
theorem a5w {t:Tx} {i a k:Nat} (h:a10 t i=.ok a k):i < t.length∧k=i+1∧a2u (t.getD i 0)=some a:=by
 unfold a10 at h
 split at h
 · rename_i hi
   split at h
   · rename_i n hn;cases h;exact ⟨hi,rfl,hn⟩
   · cases h
 · cases h
theorem b0u {t:Tx} {i:Nat} {c:Int} {z:Nat} (h:a10 t i=.err c z):c=3∧(i < t.length→a2u (t.getD i 0)=none):=by
 unfold a10 at h
 split at h
 · split at h
   · cases h
   · rename_i hn;cases h;exact ⟨rfl,fun _=>hn⟩
 · rename_i hi;cases h;exact ⟨rfl,fun h=>absurd h hi⟩
theorem b1a (t:Tx) (i:Nat):N9 t [48,48] i=true↔i+1 < t.length∧t.getD i 0=48∧t.getD (i+1) 0=48:=by
 rw [← a02,List.isPrefixOf_iff_prefix]
 by_cases h:i+1 < t.length
 · rw [List.drop_eq_getElem_cons (by omega:i < t.length),List.drop_eq_getElem_cons h,List.cons_prefix_cons,List.cons_prefix_cons]
   have e:t.getD i 0=t[i]:=by simp [show i < t.length by omega]
   have e2:t.getD (i+1) 0=t[i+1]:=by simp [h]
   rw [e,e2]
   constructor
   · rintro ⟨e,e',_⟩;exact ⟨h,e.symm,e'.symm⟩
   · rintro ⟨_,e,e'⟩;exact ⟨e.symm,e'.symm,List.nil_prefix⟩
 · constructor
   · intro hp
     have:=hp.length_le
     simp at this;omega
   · rintro ⟨h1,_⟩;exact absurd h1 h
theorem c16 (t:Tx) (i:Nat):match c39 t i with | .ok b k=>a8y t i=some (b,k) | .err c _=>c=3∧a8y t i=none:=by
 unfold c39 a8y
 by_cases hi:i < t.length
 · rw [if_pos hi,if_pos hi]
   cases h1:a3a (t.getD i 0) with
   | some b=>simp only []
   | none=>
    simp only []
    by_cases hu:t.getD i 0=117
    · rw [if_pos hu]
      by_cases hw:N9 t [48,48] (i+1)=true
      · rw [if_pos hw]
        obtain ⟨w1,w2,w3⟩:=(b1a _ _).1 hw
        cases ha:a10 t (i+3) with
        | err c z=>
         obtain ⟨e1,e2⟩:=b0u ha
         simp only []
         refine ⟨e1,?_⟩
         by_cases hc:t.getD i 0=117∧i+5≤t.length∧t.getD (i+1) 0=48∧t.getD (i+2) 0=48
         · rw [if_pos hc,e2 (by omega)]
         · rw [if_neg hc]
        | ok a k=>
         obtain ⟨a1,rfl,a3⟩:=a5w ha
         simp only []
         cases hb:a10 t (i+3+1) with
         | err c z=>
          obtain ⟨e1,e2⟩:=b0u hb
          simp only []
          refine ⟨e1,?_⟩
          by_cases hc:t.getD i 0=117∧i+5≤t.length∧t.getD (i+1) 0=48∧t.getD (i+2) 0=48
          · rw [if_pos hc,a3,e2 (by omega)]
          · rw [if_neg hc]
         | ok b k=>
          obtain ⟨b1,rfl,b3⟩:=a5w hb
          simp only []
          rw [if_pos ⟨hu,by omega,w2,w3⟩,a3,b3]
      · rw [if_neg hw]
        refine ⟨rfl,?_⟩
        rw [if_neg]
        rintro ⟨_,c1,c2,c3⟩
        exact hw ((b1a _ _).2 ⟨by omega,c2,c3⟩)
    · rw [if_neg hu]
      exact ⟨rfl,by rw [if_neg fun h=>hu h.1]⟩
 · rw [if_neg hi,if_neg hi];exact ⟨rfl,rfl⟩
def b2o (t:Tx):Nat→Nat→Tx→JZ Tx
 | 0,i,_=>.err 3 i
 | n+1,i,out=>if i < t.length then
  (if t.getD i 0=34 then (if 120 < out.length then .err 8 (i+1) else .ok out (i+1))
   else if t.getD i 0=92 then (match c39 t (i+1) with | .ok b k=>b2o t n k (out++[b]) | .err c z=>.err c z)
   else if 32≤(t.getD i 0).toNat∧(t.getD i 0).toNat≤126 then b2o t n (i+1) (out++[t.getD i 0]) else .err 3 (i+1))
  else .err 3 i
theorem b4f (t:Tx):∀ n i out,(b2o t n i out).jr=b4z t n i out
 | 0,i,out=>rfl
 | n+1,i,out=>by
  unfold b2o b4z
  by_cases hi:i < t.length
  · rw [if_pos hi,if_pos hi]
    by_cases h34:t.getD i 0=34
    · rw [if_pos h34,if_pos h34]
      by_cases h120:120 < out.length
      · rw [if_pos h120,if_pos h120];rfl
      · rw [if_neg h120,if_neg h120];rfl
    · rw [if_neg h34,if_neg h34]
      by_cases h92:t.getD i 0=92
      · rw [if_pos h92,if_pos h92]
        have he:=c16 t (i+1)
        cases hp:c39 t (i+1) with
        | err c z=>rw [hp] at he;simp only [] at he;rw [he.2,he.1];rfl
        | ok b k=>rw [hp] at he;simp only [] at he;rw [he];exact b4f t n k _
      · rw [if_neg h92,if_neg h92]
        by_cases hr:32≤(t.getD i 0).toNat∧(t.getD i 0).toNat≤126
        · rw [if_pos hr,if_pos hr];exact b4f t n _ _
        · rw [if_neg hr,if_neg hr];rfl
  · rw [if_neg hi,if_neg hi];rfl
def Z7 (t:Tx) (i:Nat):JZ Tx:=if N9 t [34] i then b2o t (t.length+1) (i+1) [] else .err 3 i
theorem a34 (t:Tx) (i:Nat):(Z7 t i).jr=a1i t i:=by
 unfold Z7 a1i
 rw [a8x]
 by_cases h:i < t.length∧t.getD i 0=34
 · rw [if_pos h,if_pos (decide_eq_true h)];exact b4f t _ _ _
 · rw [if_neg h,if_neg (by rw [decide_eq_false h];exact Bool.false_ne_true)];rfl
def b2p (t:Tx) (i:Nat):JZ Int:=match U1 ((t.take (a09 t i)).drop i) with
 | none=>.err 3 (a09 t i)
 | some n=>if -999999999≤n∧n≤999999999 then .ok n (a09 t i) else .err 4 (a09 t i)
theorem a7r (t:Tx) (i:Nat):(b2p t i).jr=a44 t i:=by
 unfold b2p a44
 cases U1 ((t.take (a09 t i)).drop i) with
 | none=>rfl
 | some n=>
  simp only []
  split<;>rfl
def b3a (V:Nat→JZ LJson) (t:Tx) (e:UInt8) (K:Nat→List Tx→List LJson→JZ (List Tx×List LJson)) (k:Nat) (ns:List Tx) (xs:List LJson):JZ (List Tx×List LJson):=match V k with
 | .err c z=>.err c z
 | .ok x k=>if 12 < xs.length+1 then .err 6 k else
  if N9 t [e] (d3 t k) then .ok (ns,xs++[x]) (d3 t k+1)
  else if N9 t [44] (d3 t k) then K (d3 t k+1) ns (xs++[x]) else .err 3 (d3 t k)
def a9h (t:Tx) (i:Nat) (ns:List Tx):JZ Tx:=match Z7 t i with
 | .err c z=>.err c z
 | .ok nm k=>if nm∈ns then .err 13 k else if N9 t [58] (d3 t k) then .ok nm (d3 t k+1) else .err 3 (d3 t k)
def a6y (V:Nat→JZ LJson) (t:Tx) (obj:Bool) (e:UInt8):Nat→Nat→List Tx→List LJson→JZ (List Tx×List LJson)
 | 0,i,_,_=>.err 6 i
 | n+1,i,ns,xs=>match obj with
  | false=>b3a V t e (a6y V t obj e n) (d3 t i) ns xs
  | true=>match a9h t (d3 t i) ns with
   | .err c z=>.err c z
   | .ok nm k=>b3a V t e (a6y V t obj e n) k (ns++[nm]) xs
def a9i (V:Nat→JZ LJson) (t:Tx) (obj:Bool) (e:UInt8) (i:Nat):JZ (List Tx×List LJson):=
 if N9 t [e] (d3 t i) then .ok ([],[]) (d3 t i+1) else a6y V t obj e 13 (d3 t i) [] []
def pmk (k:Int):JZ (List Tx×List LJson)→JZ LJson
 | .err c z=>.err c z
 | .ok v i=>.ok (.mk k 0 [] v.1 v.2) i
theorem a57 {α:Type} (t:Tx) (e:UInt8) (i:Nat) (a b:α):(if N9 t [e] i=true then a else b)=if i < t.length∧t.getD i 0=e then a else b:=by
 rw [a8x]
 by_cases h:i < t.length∧t.getD i 0=e
 · rw [if_pos h,if_pos (decide_eq_true h)]
 · rw [if_neg h,if_neg (by rw [decide_eq_false h];exact Bool.false_ne_true)]
theorem b6b {V:Nat→JZ LJson} {W:Nat→JR LJson} (hV:∀ i,(V i).jr=W i) {t:Tx} {e:UInt8} {K:Nat→List Tx→List LJson→JZ (List Tx×List LJson)} {K':Nat→List Tx→List LJson→JR (List Tx×List LJson)} (hK:∀ i ns xs,(K i ns xs).jr=K' i ns xs) (k:Nat) (ns:List Tx) (xs:List LJson) :
 (b3a V t e K k ns xs).jr=a9m W t e K' k ns xs:=by
 unfold b3a a9m
 rw [← hV]
 cases V k with
 | err c z=>rfl
 | ok x k=>
  have hr:∀ (p:Prop) [Decidable p] (a b:JZ (List Tx×List LJson)),(if p then a else b).jr=if p then a.jr else b.jr:=fun p _ a b=>by split<;>rfl
  simp only [a57,hr,hK]
  rfl
theorem a8n {V:Nat→JZ LJson} {W:Nat→JR LJson} (hV:∀ i,(V i).jr=W i) (t:Tx) (obj:Bool) (e:UInt8):∀ n i ns xs,(a6y V t obj e n i ns xs).jr=a3j W t obj e n i ns xs
 | 0,i,ns,xs=>rfl
 | n+1,i,ns,xs=>by
  unfold a6y a3j
  cases obj with
  | false=>exact b6b hV (a8n hV t false e n) _ _ _
  | true=>
   simp only []
   unfold a9h
   rw [← a34]
   cases Z7 t (d3 t i) with
   | err c z=>rfl
   | ok nm k=>
    have hr:∀ (p:Prop) [Decidable p] (a b:JZ Tx),(if p then a else b).jr=if p then a.jr else b.jr:=fun p _ a b=>by split<;>rfl
    simp only [a57]
    show JZ.jr _=if nm∈ns then _ else _
    by_cases hm:nm∈ns
    · rw [if_pos hm,if_pos hm];rfl
    · rw [if_neg hm,if_neg hm]
      by_cases h5:d3 t k < t.length∧t.getD (d3 t k) 0=58
      · rw [if_pos h5,if_pos h5]
        exact b6b hV (a8n hV t true e n) _ _ _
      · rw [if_neg h5,if_neg h5];rfl
theorem b6a {V:Nat→JZ LJson} {W:Nat→JR LJson} (hV:∀ i,(V i).jr=W i) (t:Tx) (obj:Bool) (e:UInt8) (i:Nat):(a9i V t obj e i).jr=a6q W t obj e i:=by
 unfold a9i a6q
 rw [a57]
 split
 · rfl
 · exact a8n hV t obj e _ _ _ _
theorem b8p (k:Int) (r:JZ (List Tx×List LJson)):(pmk k r).jr=jmk k r.jr:=by cases r<;>rfl
def a6x (t:Tx):Nat→Nat→JZ LJson
 | d,i=>if N9 t jnull (d3 t i) then .ok (.mk 1 0 [] [] []) (d3 t i+4)
  else if N9 t jtrue (d3 t i) then .ok (.mk 2 1 [] [] []) (d3 t i+4)
  else if N9 t jfalse (d3 t i) then .ok (.mk 2 0 [] [] []) (d3 t i+5)
  else if N9 t [91] (d3 t i) then (match d with | 0=>.err 12 (d3 t i+1) | d+1=>pmk 5 (a9i (a6x t d) t false 93 (d3 t i+1)))
  else if N9 t [123] (d3 t i) then (match d with | 0=>.err 12 (d3 t i+1) | d+1=>pmk 6 (a9i (a6x t d) t true 125 (d3 t i+1)))
  else if N9 t [34] (d3 t i) then (match Z7 t (d3 t i) with | .err c z=>.err c z | .ok v k=>.ok (.mk 4 0 v [] []) k)
  else (match b2p t (d3 t i) with | .err c z=>.err c z | .ok n k=>.ok (.mk 3 n [] [] []) k)
theorem c0x {t:Tx} {i:Nat} (h:i < t.length→t.getD i 0≠45∧S1 (t.getD i 0)=false):a44 t i=.err 3:=by
 have hs:a1r t i=i:=by
  unfold a1r
  rw [if_neg]
  rintro ⟨h1,h2⟩
  exact (h h1).1 h2
 have he:a09 t i=i:=by
  unfold a09
  rw [hs]
  by_cases hi:i < t.length
  · have h2:=(h hi).2
    have e:t.getD i 0=t[i]:=by simp [hi]
    rw [e] at h2
    exact b1g hi h2
  · exact a8z (by omega)
 unfold a44
 rw [he,show (t.take i).drop i=[] from List.drop_eq_nil_of_le (by simp;omega)]
 rfl
theorem b6u {t:Tx} {c x:UInt8} {w:Tx} {i:Nat} (hx:t.getD i 0=x) (h:x≠c):N9 t (c :: w) i=false:=by
 cases hj:N9 t (c :: w) i with
 | false=>rfl
 | true=>exact absurd (hx ▸ (a0q hj).2) h
theorem c0g (t:Tx):∀ d i,(a6x t d i).jr=a63 t d i:=by
 have step:∀ d,(∀ o e,match d with | 0=>True | d+1=>∀ i,(a9i (a6x t d) t o e i).jr=a6q (a63 t d) t o e i)→∀ i,(a6x t d i).jr=a63 t d i:=by
  intro d hd i
  unfold a6x a63
  obtain ⟨k,hk⟩:∃ k,d3 t i=k:=⟨_,rfl⟩
  rw [hk]
  have hnum:∀ (r:JZ Int),(match r with | .err c z=>(.err c z:JZ LJson) | .ok n k=>.ok (.mk 3 n [] [] []) k).jr=match r.jr with | .err c=>.err c | .ok n k=>.ok (.mk 3 n [] [] []) k:=fun r=>by cases r<;>rfl
  by_cases hi:k < t.length
  · rw [if_pos hi]
    obtain ⟨x,hx⟩:∃ x,t.getD k 0=x:=⟨_,rfl⟩
    have o:∀ (c:UInt8) (w:Tx),x≠c→(N9 t (c :: w) k=true)=False:=fun c w h=>by rw [b6u hx h];simp
    have w1:∀ c:UInt8,x=c→(N9 t [c] k=true)=True:=fun c h=>by rw [a8x,decide_eq_true ⟨hi,hx.trans h⟩];simp
    have no:(x≠45∧S1 x=false)→(match a44 t k with | .err c=>(.err c:JR LJson) | .ok n k=>.ok (.mk 3 n [] [] []) k)=.err 3:=fun h=>by rw [c0x fun _=>by rw [hx];exact h]
    rw [hx]
    by_cases c1:x=110
    · subst c1
      simp only [jnull,jtrue,jfalse,o 116 [114,117,101] (by decide),o 102 [97,108,115,101] (by decide),o 91 [] (by decide),o 123 [] (by decide),o 34 [] (by decide),if_false]
      by_cases hj:N9 t [110,117,108,108] k=true
      · simp only [hj,if_true];rfl
      · simp only [hj,Bool.false_eq_true,if_false];rw [hnum,a7r,no (by decide)]
    by_cases c2:x=116
    · subst c2
      simp only [jnull,jtrue,jfalse,o 110 [117,108,108] (by decide),o 102 [97,108,115,101] (by decide),o 91 [] (by decide),o 123 [] (by decide),o 34 [] (by decide),if_false]
      by_cases hj:N9 t [116,114,117,101] k=true
      · simp only [hj,if_true];rfl
      · simp only [hj,Bool.false_eq_true,if_false];rw [hnum,a7r,no (by decide)]
    by_cases c3:x=102
    · subst c3
      simp only [jnull,jtrue,jfalse,o 110 [117,108,108] (by decide),o 116 [114,117,101] (by decide),o 91 [] (by decide),o 123 [] (by decide),o 34 [] (by decide),if_false]
      by_cases hj:N9 t [102,97,108,115,101] k=true
      · simp only [hj,if_true];rfl
      · simp only [hj,Bool.false_eq_true,if_false];rw [hnum,a7r,no (by decide)]
    simp only [jnull,jtrue,jfalse,o 110 [117,108,108] c1,o 116 [114,117,101] c2,o 102 [97,108,115,101] c3,if_false]
    by_cases c4:x=34
    · subst c4
      simp only [o 91 [] (by decide),o 123 [] (by decide),w1 34 rfl,if_false,if_true]
      rw [← a34]
      cases Z7 t k<;>rfl
    by_cases c5:x=91
    · subst c5
      simp only [w1 91 rfl,if_true]
      cases d with
      | zero=>rfl
      | succ d=>
       simp only []
       rw [b8p,hd]
    by_cases c6:x=123
    · subst c6
      simp only [o 91 [] (by decide),w1 123 rfl,if_false,if_true]
      cases d with
      | zero=>rfl
      | succ d=>
       simp only []
       rw [b8p,hd]
    simp only [o 91 [] c5,o 123 [] c6,o 34 [] c4,if_false]
    rw [hnum,a7r]
    all_goals rfl
  · rw [if_neg hi]
    have o:∀ (c:UInt8) (w:Tx),(N9 t (c :: w) k=true)=False:=fun c w=>by
     cases hj:N9 t (c :: w) k with
     | false=>simp
     | true=>exact absurd (a0q hj).1 hi
    simp only [jnull,jtrue,jfalse,o,if_false]
    rw [hnum,a7r,c0x fun h=>absurd h hi]
 intro d
 induction d with
 | zero=>exact step 0 (fun o e=>trivial)
 | succ d ih=>exact step (d+1) (fun o e i=>b6a ih t o e i)
end Go.KP
end
section
namespace Go.KP
mutual
def jtx:LJson→Tx
 | .mk k n t ns is=>if k=1 then jnull else if k=2 then (if n=1 then jtrue else jfalse) else if k=3 then a2p n else if k=4 then a00 t else if k=5 then 91 :: (a0f [44] (T3 5 ns (c4v is))++[93]) else 123 :: (a0f [44] (T3 6 ns (c4v is))++[125])
def c4v:List LJson→List Tx
 | []=>[]
 | x :: xs=>jtx x :: c4v xs
end
theorem c4u (l:List LJson):c4v l=l.map jtx:=by
 induction l with
 | nil=>rfl
 | cons x xs ih=>simp [c4v,ih]
theorem Y0 (k n:Int) (t:Tx) (ns:List Tx) (is:List LJson):jtx (.mk k n t ns is)=if k=1 then jnull else if k=2 then (if n=1 then jtrue else jfalse) else if k=3 then a2p n else if k=4 then a00 t else if k=5 then 91 :: (a0f [44] (is.map jtx)++[93]) else 123 :: (a0f [44] (T3 6 ns (is.map jtx))++[125]):=by
 rw [jtx,c4u]
 rw [a1d (by decide) ns (is.map jtx)]
theorem b3j {B:Nat} {k:Int} {ns ts:List Tx} (hk:k=5∨(k=6∧ns.length=ts.length∧∀ s∈ns,s.length≤120)) (ih:∀ x∈ts,x.length≤B):∀ x∈T3 k ns ts,x.length+[(44:UInt8)].length≤B+730:=by
 intro x hx
 obtain ⟨i,hi',rfl⟩:=List.mem_iff_getElem.1 hx
 have hi:i < ts.length:=by rw [a0s] at hi';exact hi'
 have hj:=ih _ (List.getElem_mem hi)
 rcases hk with rfl | ⟨rfl,hn,hns⟩
 · have:T3 5 ns ts=ts:=a1d (by decide) _ _
   simp only [this,List.length_cons,List.length_nil];omega
 · rw [a65 ns _ hn i (by omega) hi]
   have hq:=a4b (ns[i]'(by omega))
   have hq2:=hns _ (List.getElem_mem (show i < ns.length by omega))
   simp only [List.length_append,List.length_cons,List.length_nil];omega
theorem c2i {n:Int} (h:-999999999≤n∧n≤999999999):(a2p n).length≤10:=by
 unfold a2p
 split
 · have:=b7j (-n).toNat (by omega)
   simp;omega
 · have:=b7j n.toNat (by omega)
   omega
theorem jpow (d:Nat):2 ^ (10+6*(d+1))=64*2 ^ (10+6*d):=by
 rw [show 10+6*(d+1)=(10+6*d)+6 by omega,Nat.pow_add];omega
theorem c0w:∀ (d:Nat) (j:LJson),R3 d j→(jtx j).length≤2 ^ (10+6*d)
 | d,.mk k n t ns is,h=>by
  have e0:2 ^ 10≤2 ^ (10+6*d):=Nat.pow_le_pow_right (by omega) (by omega)
  have e4:(2:Nat) ^ 10=1024:=by decide
  unfold R3 at h
  rcases h with ⟨rfl,_⟩ | ⟨rfl,_⟩ | ⟨rfl,h1,_⟩ | ⟨rfl,_,h1,_⟩ | ⟨_,_,hl,hk,hs⟩
  · rw [Y0];simp [jnull];omega
  · rw [Y0];simp;split<;>simp [jtrue,jfalse]<;>omega
  · have:=c2i h1
    rw [Y0];simp;omega
  · have:=a4b t
    rw [Y0];simp;omega
  · cases d with
    | zero=>exact hs.elim
    | succ d=>
     simp only [] at hs
     have e1:2 ^ 10≤2 ^ (10+6*d):=Nat.pow_le_pow_right (by omega) (by omega)
     have ih:∀ x∈is.map jtx,x.length≤2 ^ (10+6*d):=fun x hx=>by
      obtain ⟨y,hy,rfl⟩:=List.mem_map.1 hx
      exact c0w d y (hs y hy)
     have hml:(is.map jtx).length=is.length:=List.length_map ..
     have hk':k=5∨(k=6∧ns.length=(is.map jtx).length∧∀ s∈ns,s.length≤120):=by
      rcases hk with ⟨h,_⟩ | ⟨h,h2,_,h4⟩
      · exact .inl h
      · exact .inr ⟨h,by rw [hml];exact h2,h4⟩
     have hp:=b3j hk' ih
     have hj:=b3g (sep:=[44]) (xs:=T3 k ns (is.map jtx)) hp
     rw [a0s,hml] at hj
     have h16:is.length*(2 ^ (10+6*d)+730)≤12*(2 ^ (10+6*d)+730):=Nat.mul_le_mul_right _ hl
     have e3:=jpow d
     rcases hk with ⟨rfl,_⟩ | ⟨rfl,_⟩
     · rw [a1d (by decide)] at hj
       rw [Y0];simp at hj ⊢;omega
     · rw [Y0];simp at hj ⊢;omega
theorem a3t {d:Nat} {k:Int} {ns:List Tx} {is:List LJson} (hd:d≤3) (hk:k=5∨(k=6∧ns.length=is.length∧∀ s∈ns,s.length≤120)) (hl:is.length≤12) (hs:∀ x∈is,R3 d x) (i:Nat):(a0f [44] ((T3 k ns (is.map jtx)).take i)).length≤3221260272∧∀ x∈is,(jtx x).length≤268435456:=by
 have h3:2 ^ (10+6*d)≤2 ^ 28:=Nat.pow_le_pow_right (by omega) (by omega)
 have e28:(2:Nat) ^ 28=268435456:=by decide
 have ih:∀ x∈is.map jtx,x.length≤268435456:=fun x hx=>by
  obtain ⟨y,hy,rfl⟩:=List.mem_map.1 hx
  have:=c0w d y (hs y hy)
  omega
 have hk':k=5∨(k=6∧ns.length=(is.map jtx).length∧∀ s∈ns,s.length≤120):=by
  rcases hk with h | ⟨h,h2,h4⟩
  · exact .inl h
  · exact .inr ⟨h,by rw [List.length_map];exact h2,h4⟩
 have hp:=b3j hk' ih
 have hj:=b3g (B:=268435456+730) (sep:=[44]) (xs:=(T3 k ns (is.map jtx)).take i) fun x hx=>hp x (List.mem_of_mem_take hx)
 have h1:((T3 k ns (is.map jtx)).take i).length≤12:=by rw [List.length_take,a0s,List.length_map];omega
 have h2:((T3 k ns (is.map jtx)).take i).length*(268435456+730)≤12*(268435456+730):=Nat.mul_le_mul_right _ h1
 exact ⟨by omega,fun x hx=>ih _ (List.mem_map_of_mem hx)⟩
end Go.KP
end
section
namespace Go.KP
end Go.KP
end
section
namespace Go.KP
end Go.KP
end
section
namespace Go.KP
def a4p (b:LBox) (i:Nat):Bool:=decide (1≤b.ids.getD i 0∧b.ids.getD i 0≤1000000) && (decide (1≤b.times.getD i 0∧b.times.getD i 0≤1000000) && (decide ((b.bodies.getD i []).length≤8000) && decide (b.ids.getD i 0∉b.ids.take i)))
def a2q (b:LBox):Bool:=decide (b.ids.length≤4096) && (decide (b.times.length=b.ids.length) && (decide (b.bodies.length=b.ids.length) && (List.range b.ids.length).all (a4p b)))
def a24 (b:LBox) (id:Int):Int:=a2o b.ids fun x=>decide (x=id)
def a5p (x:LBox) (p:LParcel):Option LBox:=
 if a24 x p.id < 0 then some ⟨x.ids++[p.id],x.times++[1],x.bodies++[p.body]⟩
 else if x.bodies.getD (a24 x p.id).toNat []=p.body then some ⟨x.ids,x.times.set (a24 x p.id).toNat (min (x.times.getD (a24 x p.id).toNat 0+1) 1000000),x.bodies⟩
 else none
def a0d:LBox→List LParcel→Option LBox
 | x,[]=>some x
 | x,p :: ps=>match a5p x p with
  | none=>none
  | some y=>a0d y ps
theorem b31 (x:LBox) (l:List LParcel) (p:LParcel):a0d x (l++[p])=match a0d x l with
 | none=>none
 | some y=>a5p y p:=by
 induction l generalizing x with
 | nil=>
  simp only [List.nil_append,a0d]
  cases a5p x p<;>rfl
 | cons q l ih=>
  simp only [List.cons_append,a0d]
  cases h:a5p x q with
  | none=>rfl
  | some y=>exact ih y
theorem b2a {x:LBox} {l:List LParcel} {i:Nat} (h:i < l.length) {y:LBox} (hy:a0d x (l.take i)=some y) (hs:a5p y l[i]=none):a0d x l=none:=by
 have h1:a0d x (l.take (i+1))=none:=by
  rw [List.take_add_one,List.getElem?_eq_getElem h]
  show a0d x (l.take i++[l[i]])=none
  rw [b31,hy]
  exact hs
 have key:∀ (m:List LParcel) (x:LBox) (k:List LParcel),a0d x m=none→a0d x (m++k)=none:=by
  intro m
  induction m with
  | nil=>intro x k h;cases h
  | cons q m ih=>
   intro x k h
   simp only [List.cons_append,a0d] at h ⊢
   cases hq:a5p x q with
   | none=>rfl
   | some y=>rw [hq] at h;exact ih y k h
 rw [← List.take_append_drop (i+1) l]
 exact key _ _ _ h1
theorem a4l {x:LBox} {l:List LParcel} {i:Nat} (h:i < l.length) {y z:LBox} (hy:a0d x (l.take i)=some y) (hs:a5p y l[i]=some z):a0d x (l.take (i+1))=some z:=by
 rw [List.take_add_one,List.getElem?_eq_getElem h]
 show a0d x (l.take i++[l[i]])=some z
 rw [b31,hy]
 exact hs
def BI (b:LBox):Prop:=b.times.length=b.ids.length∧b.bodies.length=b.ids.length∧∀ t∈b.times,1≤t∧t≤1000000
theorem a7k (b:LBox) (id:Int):a24 b id=-1∨∃ k:Nat,k < b.ids.length∧a24 b id=k:=by
 rcases a54 b.ids (fun x=>decide (x=id)) with ⟨h,_⟩ | ⟨k,hk,h,_⟩
 · exact .inl h
 · exact .inr ⟨k,hk,h⟩
theorem c50 {x y:LBox} {p:LParcel} (h:BI x) (hs:a5p x p=some y):BI y∧x.ids.length≤y.ids.length∧y.ids.length≤x.ids.length+1∧(∀ s∈y.bodies,s∈x.bodies∨s=p.body):=by
 obtain ⟨h1,h2,h3⟩:=h
 unfold a5p at hs
 split at hs
 · cases hs
   refine ⟨⟨by simp [h1],by simp [h2],fun t ht=>?_⟩,by simp,by simp,fun s hs=>?_⟩
   · simp only [List.mem_append,List.mem_singleton] at ht
     rcases ht with ht | rfl
     · exact h3 t ht
     · omega
   · simpa using hs
 · rename_i h0
   split at hs
   · cases hs
     rcases a7k x p.id with e | ⟨k,hk,e⟩
     · rw [e] at h0;exact absurd (by decide) h0
     refine ⟨⟨by simp [h1],h2,fun t ht=>?_⟩,Nat.le_refl _,Nat.le_add_right _ _,fun s hs=>.inl hs⟩
     rcases List.mem_or_eq_of_mem_set ht with ht | rfl
     · exact h3 t ht
     · have hk':k < x.times.length:=by omega
       have:=h3 _ (List.getElem_mem hk')
       rw [e]
       simp only [Int.toNat_natCast,List.getD_eq_getElem?_getD,List.getElem?_eq_getElem hk',Option.getD_some]
       omega
   · cases hs
theorem b2b {x y:LBox} {l:List LParcel} (h:BI x) (hs:a0d x l=some y):BI y∧y.ids.length≤x.ids.length+l.length∧(∀ s∈y.bodies,s∈x.bodies∨∃ p∈l,s=p.body):=by
 induction l generalizing x with
 | nil=>cases hs;exact ⟨h,by simp,fun s hs=>.inl hs⟩
 | cons p l ih=>
  simp only [a0d] at hs
  split at hs
  · cases hs
  · rename_i z hz
    obtain ⟨a1,a2,a3,a4⟩:=c50 h hz
    obtain ⟨b1,b2,b3⟩:=ih a1 hs
    refine ⟨b1,by simp;omega,fun s hs=>?_⟩
    rcases b3 s hs with hs | ⟨q,hq,e⟩
    · rcases a4 s hs with hs | e
      · exact .inl hs
      · exact .inr ⟨p,List.mem_cons_self ..,e⟩
    · exact .inr ⟨q,List.mem_cons_of_mem _ hq,e⟩
theorem a8w {b:LBox} (h:a2q b=true):BI b∧b.ids.length≤4096∧∀ s∈b.bodies,s.length≤8000:=by
 unfold a2q at h
 simp only [Bool.and_eq_true,decide_eq_true_eq,List.all_eq_true,List.mem_range] at h
 obtain ⟨h1,h2,h3,h4⟩:=h
 refine ⟨⟨h2,h3,fun t ht=>?_⟩,h1,fun s hs=>?_⟩
 · obtain ⟨i,hi,rfl⟩:=List.mem_iff_getElem.1 ht
   have:=h4 i (by omega)
   unfold a4p at this
   simp only [Bool.and_eq_true,decide_eq_true_eq] at this
   have h5:=this.2.1
   rw [List.getD_eq_getElem?_getD,List.getElem?_eq_getElem hi,Option.getD_some] at h5
   exact h5
 · obtain ⟨i,hi,rfl⟩:=List.mem_iff_getElem.1 hs
   have:=h4 i (by omega)
   unfold a4p at this
   simp only [Bool.and_eq_true,decide_eq_true_eq] at this
   have h5:=this.2.2.1
   rw [List.getD_eq_getElem?_getD,List.getElem?_eq_getElem hi,Option.getD_some] at h5
   exact h5
end Go.KP
end
