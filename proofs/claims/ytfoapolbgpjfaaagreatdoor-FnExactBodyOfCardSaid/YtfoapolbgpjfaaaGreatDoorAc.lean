/- Ac: merged out of KPa, KPb, KPc, KPd, KPe, KPf, KPg, KPh, KPi, KPj, KPk, KPl, KPm, KPn, KPo, KQa, KRa, KLa, KRb, KRc, KPp, KPq, KRd, KPu. -/
import Derived.Test.YtfoapolbgpjfaaaGreatDoorPWv
set_option linter.unusedSectionVars false
set_option linter.unusedSimpArgs false
set_option linter.unusedVariables false
section
namespace Go.KP
abbrev Tx:=List UInt8
def m0 (c:UInt8):Bool:=decide (97≤c.toNat∧c.toNat≤122)
def o5 (c:UInt8):Bool:=decide (48≤c.toNat∧c.toNat≤57)
def b2o (c:UInt8):UInt8:=if 65≤c.toNat∧c.toNat≤90 then c+32 else c
def o8 (t:Tx):Tx:=t.map b2o
def k8 (t:Tx) (c:UInt8):Nat:=t.findIdx (· == c)
def P8 (t wo:Tx):Bool:=t.all fun c=>decide (33≤c.toNat∧c.toNat≤126) && !decide (c∈wo)
def a2z:Tx:=[104,116,116,112]
def a4l:Tx:=[104,116,116,112,115]
def K7 (s:Tx):Bool:=s == a2z || s == a4l
def K5 (c:UInt8):Bool:=m0 c || o5 c || decide (c.toNat=45∨c.toNat=43∨c.toNat=46)
def a0s (t:Tx):Bool:=(t.take 1).all m0 && t.all K5
def J9 (t:Tx):Bool:=decide (1≤t.length∧t.length≤12) && a0s t
def C8:Bool→Tx→Bool
 | last,[]=>!last
 | last,c :: r=>if !(m0 c || o5 c) && (last || !decide (c.toNat=45∨c.toNat=46)) then false else C8 (!(m0 c || o5 c)) r
def V3 (t:Tx):Bool:=C8 true t
def R2 (s:Tx):Int:=if s=a2z then 80 else 443
def Y2 (n:Nat):Tx:=if h:n < 10 then [UInt8.ofNat (48+n)] else Y2 (n / 10)++[UInt8.ofNat (48+n % 10)]
termination_by n
decreasing_by omega
theorem b2r (t:Tx) (c:UInt8) (i:Nat) (hi:i≤t.length) (h:∀ k,k < i→t.getD k 0≠c) (h':i=t.length∨t.getD i 0=c):k8 t c=i:=by
 unfold k8
 by_cases hl:i < t.length
 · rw [List.findIdx_eq hl]
   refine ⟨?_,fun j hj=>?_⟩
   · rcases h' with h' | h'
     · omega
     · simpa [List.getD_eq_getElem?_getD,List.getElem?_eq_getElem hl] using h'
   · have:=h j hj
     have hjl:j < t.length:=by omega
     simpa [List.getD_eq_getElem?_getD,List.getElem?_eq_getElem hjl] using this
 · have e:i=t.length:=by omega
   subst e
   rw [List.findIdx_eq_length]
   intro x hx
   obtain ⟨j,hj,rfl⟩:=List.getElem_of_mem hx
   have:=h j hj
   simpa [List.getD_eq_getElem?_getD,List.getElem?_eq_getElem hj] using this
theorem U8 (t:Tx) (c:UInt8):k8 t c≤t.length:=List.findIdx_le_length
theorem L2 {t:Tx} {c:UInt8}:k8 t c < t.length↔c∈t:=by
 unfold k8
 rw [List.findIdx_lt_length]
 constructor
 · rintro ⟨x,hx,h⟩;have:x=c:=by simpa using h
   exact this ▸ hx
 · intro h;exact ⟨c,h,by simp⟩
theorem a1s {α:Type} (t:List α) (i:Nat) (d:α) (h:i < t.length):t.getD i d=t[i]:=by simp [List.getD_eq_getElem?_getD,List.getElem?_eq_getElem h]
theorem a99 {α:Type} (t:List α) (i:Nat) (d:α) (h:i < t.length):t.take (i+1)=t.take i++[t.getD i d]:=by
 rw [List.take_add_one,List.getElem?_eq_getElem h,a1s t i d h];rfl
theorem W2 {n:Nat} (h:n < 10):Y2 n=[UInt8.ofNat (48+n)]:=by rw [Y2];simp [h]
theorem a02 {n:Nat} (h:¬ n < 10):Y2 n=Y2 (n / 10)++[UInt8.ofNat (48+n % 10)]:=by rw [Y2];simp [h]
theorem b8n (n:Nat):(Y2 n).length≤n+1:=by
 induction n using Nat.strongRecOn with
 | ind n ih=>
  by_cases h:n < 10
  · rw [W2 h];simp
  · rw [a02 h]
    have:=ih (n / 10) (by omega)
    simp;omega
theorem a1c:∀ (k n:Nat),n < 10 ^ (k+1)→(Y2 n).length≤k+1
 | 0,n,h=>by rw [W2 (by simpa using h)];simp
 | k+1,n,h=>by
  by_cases hn:n < 10
  · rw [W2 hn];simp
  · rw [a02 hn]
    have:=a1c k (n / 10) (by rw [Nat.div_lt_iff_lt_mul (by omega)];rw [Nat.pow_succ] at h;exact h)
    simp;omega
def a17 (n:Int):Tx:=if n < 0 then 45 :: Y2 (-n).toNat else Y2 n.toNat
def H6 (t:Tx):Nat:=t.foldl (fun n c=>n*10+(c.toNat - 48)) 0
def Z9 (neg:Bool) (t:Tx):Bool:=decide (t.length=0∨18 < t.length) || (decide ((t.getD 0 0).toNat=48) && (decide (1 < t.length) || neg))
def W6 (neg:Bool) (t:Tx):Option Int:=if Z9 neg t then none else if t.all o5 then some (if neg then - (H6 t:Int) else (H6 t:Int)) else none
def K6 (t:Tx):Option Int:=match t with
 | []=>none
 | c :: r=>if c=45 then W6 true r else W6 false (c :: r)
theorem a3z (t:Tx) (c:UInt8):H6 (t++[c])=H6 t*10+(c.toNat - 48):=by simp [H6]
theorem a7i (t:Tx) (h:t.all o5=true):H6 t < 10 ^ t.length:=by
 have key:∀ (k:Nat) (t:Tx),t.length=k→t.all o5=true→H6 t < 10 ^ t.length:=by
  intro k
  induction k with
  | zero=>intro t ht _;have:t=[]:=List.eq_nil_of_length_eq_zero ht;subst this;decide
  | succ k ih=>
   intro t ht ha
   obtain ⟨r,c,rfl⟩:∃ r c,t=r++[c]:=⟨t.dropLast,t.getLast (by intro e;subst e;simp at ht),(List.dropLast_concat_getLast _).symm⟩
   simp only [List.all_append,Bool.and_eq_true] at ha
   have h1:=ih r (by simpa using ht) ha.1
   have h2:o5 c=true:=by simpa using ha.2
   simp [o5] at h2
   rw [a3z]
   simp only [List.length_append,List.length_singleton,Nat.pow_succ]
   omega
 exact key t.length t rfl h
theorem X0 {α:Type} (t:List α) (p:α→Bool) (i:Nat) (h:i < t.length):(t.take (i+1)).all p=((t.take i).all p && p t[i]):=by
 rw [List.take_add_one,List.getElem?_eq_getElem h,List.all_append];simp
theorem a6n (t:Tx) (i:Nat) (h:i < t.length):a0s (t.take (i+1))=(a0s (t.take i) && (if i=0 then m0 t[i] else K5 t[i])):=by
 unfold a0s
 rw [X0 t _ i h]
 by_cases hi:i=0
 · subst hi
   have:(t.take (0+1)).take 1=[t[0]]:=by
    cases t with
    | nil=>simp at h
    | cons c r=>simp
   rw [this]
   simp [K5]
   cases m0 t[0]<;>simp
 · have e1:(t.take (i+1)).take 1=t.take 1:=by rw [List.take_take,Nat.min_eq_left (by omega)]
   have e2:(t.take i).take 1=t.take 1:=by rw [List.take_take,Nat.min_eq_left (by omega)]
   rw [e1,e2]
   simp [hi,Bool.and_assoc]
theorem a44 (t:Tx) (i:Nat) (h:i < t.length) (hb:(if i=0 then m0 t[i] else K5 t[i])=false):a0s t=false:=by
 unfold a0s
 by_cases hi:i=0
 · subst hi
   rw [if_pos rfl] at hb
   cases t with
   | nil=>simp at h
   | cons c r=>simp at hb;simp [hb]
 · rw [if_neg hi] at hb
   have:t.all K5=false:=by rw [List.all_eq_false];exact ⟨t[i],List.getElem_mem h,by simp [hb]⟩
   simp [this]
structure LUrl where
 scheme:Tx
 user:Tx
 host:Tx
 port:Int
 path:Tx
 query:Tx
 frag:Tx
 hasQ:Bool
 hasF:Bool
def LUrl.Small (u:LUrl):Prop:=u.scheme.length < 1099511627776∧u.user.length < 1099511627776∧u.host.length < 1099511627776∧u.path.length < 1099511627776∧u.query.length < 1099511627776∧u.frag.length < 1099511627776∧u.port≤9223372036854775807
def Q0 (p:Int):Tx:=if 0 < p then 58 :: Y2 p.toNat else []
theorem b33 (p:Int) (h:p≤9223372036854775807):(Q0 p).length≤20:=by
 unfold Q0
 split
 · have:=a1c 18 p.toNat (by omega)
   simp;omega
 · simp
def a0w (u:LUrl):Tx:=u.scheme++[58,47,47]++u.host++Q0 u.port
def M7 (u:LUrl):Tx:=
 if K7 u.scheme then
  u.scheme++[58,47,47]++(if u.user=[] then [] else u.user++[64])++(u.host++Q0 u.port++u.path)++(if u.hasQ then 63 :: u.query else [])++(if u.hasF then 35 :: u.frag else [])
 else u.scheme++[58]++u.path
def n0 (u:LUrl):Bool:=
 J9 u.scheme && (u.hasQ || decide (u.query=[])) && (u.hasF || decide (u.frag=[])) && P8 u.path [63,35] && P8 u.query [35] && P8 u.frag [] && decide ((M7 u).length≤100) &&
 (if K7 u.scheme then P8 u.user [47,63,35,64] && V3 u.host && decide (0≤u.port∧u.port≤65535) && decide (u.port≠R2 u.scheme) && decide (0 < u.path.length) && decide ((u.path.getD 0 0).toNat=47)
  else decide (u.user=[]) && decide (u.host=[]) && decide (u.port=0) && !u.hasQ && !u.hasF)
end Go.KP
end
section
namespace Go.KP
def i6 (t:Tx) (c:UInt8):Tx:=t.take (k8 t c)
def k7 (t:Tx) (c:UInt8):Tx:=t.drop (k8 t c+1)
theorem a2m {t:Tx} {c:UInt8} (h:c∉t):i6 t c=t:=by
 unfold i6
 have h1:=U8 t c
 have h2:¬ k8 t c < t.length:=fun h'=>h (L2.1 h')
 rw [show k8 t c=t.length by omega,List.take_length]
theorem a4n {t:Tx} {c:UInt8} (h:c∉t):k7 t c=[]:=by
 unfold k7
 have h2:¬ k8 t c < t.length:=fun h'=>h (L2.1 h')
 exact List.drop_eq_nil_of_le (by omega)
theorem o7 (t:Tx) (c:UInt8):(i6 t c).length≤t.length:=by unfold i6;simp;omega
theorem Q1 (t:Tx) (c:UInt8):(k7 t c).length≤t.length:=by unfold k7;simp
def LUrl.zero:LUrl:=⟨[],[],[],0,[],[],[],false,false⟩
def Z7 (sc r:Tx):Option Int:=
 if 58∈r then
  match K6 (k7 r 58) with
  | some n=>if 1≤n∧n≤65535 then some (if n=R2 sc then 0 else n) else none
  | none=>none
 else some 0
def a22 (sc r0:Tx):LUrl×Bool:=
 let r1:=i6 r0 35
 let r2:=i6 r1 63
 let r3:=i6 r2 47
 let r4:=if 64∈r3 then k7 r3 64 else r3
 match Z7 sc r4 with
 | none=>(LUrl.zero,false)
 | some p=>
  let u:LUrl:=⟨sc,if 64∈r3 then i6 r3 64 else [],o8 (i6 r4 58),p,if 47∈r2 then r2.drop (k8 r2 47) else [47],k7 r1 63,k7 r0 35,decide (63∈r1),decide (35∈r0)⟩
  (u,n0 u)
def o0 (t:Tx):LUrl×Bool:=
 if 58∈t then
  let sc:=o8 (i6 t 58)
  let rest:=k7 t 58
  if K7 sc then
   if rest.take 2=[47,47] then a22 sc (rest.drop 2) else (LUrl.zero,false)
  else
   let u:LUrl:=⟨sc,[],[],0,i6 (i6 rest 35) 63,[],[],false,false⟩
   (u,n0 u)
 else (LUrl.zero,false)
structure LTarget where
 url:Tx
 prio:Int
 weight:Int
 deriving DecidableEq
structure LPeer where
 target:LTarget
 fails:Int
 retry:Int
 gone:Bool
 deriving DecidableEq
end Go.KP
end
section
namespace Go.KP
def y6 (t:Tx):Bool:=t.all fun c=>decide (33≤c.toNat∧c.toNat≤126)
def y5 (t wo:Tx):Bool:=t.any fun c=>decide (c∈wo)
theorem b8j (t wo:Tx):P8 t wo=(y6 t && !y5 t wo):=by
 unfold P8 y6 y5
 induction t with
 | nil=>rfl
 | cons c r ih=>
  simp only [List.all_cons,List.any_cons,ih]
  cases decide (33≤c.toNat∧c.toNat≤126)<;>cases decide (c∈wo)<;>simp
theorem b6x (t:Tx):P8 t []=y6 t:=by simp [P8,y6]
theorem a4c (a b:Tx):y6 (a++b)=(y6 a && y6 b):=by simp [y6]
theorem a23:∀ (t:Tx) (last:Bool),C8 last t=true→y6 t=true
 | [],_,_=>rfl
 | c :: r,last,h=>by
  simp only [C8] at h
  split at h
  · cases h
  · rename_i hc
    have ih:=a23 r _ h
    have hh:y6 (c :: r)=(decide (33≤c.toNat∧c.toNat≤126) && y6 r):=rfl
    rw [hh,ih]
    simp [m0,o5] at hc ⊢
    omega
theorem b2q {t:Tx} (h:V3 t=true):y6 t=true:=a23 t _ h
def Z0 (p:Int):Tx:=if p=0 then [] else 58 :: a17 p
def a0x (u:LUrl):Tx:=
 if K7 u.scheme then
  u.scheme++[58,47,47]++(if u.user=[] then [] else u.user++[64])++u.host++Z0 u.port++u.path++(if u.hasQ then 63 :: u.query else [])++(if u.hasF then 35 :: u.frag else [])
 else u.scheme++[58]++u.path
theorem a8o {u:LUrl} (h:0≤u.port):a0x u=M7 u:=by
 unfold a0x M7
 split
 · have:Z0 u.port=Q0 u.port:=by
    unfold Z0 Q0 a17
    by_cases h0:u.port=0
    · simp [h0]
    · have g1:0 < u.port:=by omega
      have g2:¬ u.port < 0:=by omega
      simp only [h0,g1,g2,if_true,if_false]
   rw [this];simp
 · rfl
def a6a (u:LUrl):Bool:=
 J9 u.scheme && decide (u.user.length+u.host.length+u.path.length+u.query.length+u.frag.length≤100) && decide ((a0x u).length≤100) && y6 (u.user++u.host++u.path++u.query++u.frag) && !y5 u.path [63,35] &&
 (if K7 u.scheme then !y5 u.user [47,63,35,64] && V3 u.host && decide (0≤u.port∧u.port≤65535) && decide (u.port≠R2 u.scheme) && decide (0 < u.path.length) && decide ((u.path.getD 0 0).toNat=47) && !y5 u.query [35] && (u.hasQ || decide (u.query=[])) && (u.hasF || decide (u.frag=[]))
  else decide (u.user=[]) && decide (u.host=[]) && decide (u.port=0) && decide (u.query=[]) && decide (u.frag=[]) && !u.hasQ && !u.hasF)
theorem b61 (u:LUrl):a6a u=n0 u:=by
 by_cases hp:0≤u.port
 · unfold a6a n0
   rw [a8o hp]
   simp only [b8j,b6x,a4c]
   by_cases hw:K7 u.scheme=true
   · rw [if_pos hw,if_pos hw]
     rw [Bool.eq_iff_iff]
     have hl:(M7 u).length=u.scheme.length+3+(if u.user=[] then 0 else u.user.length+1)+(u.host.length+(Q0 u.port).length+u.path.length)+(if u.hasQ then u.query.length+1 else 0)+(if u.hasF then u.frag.length+1 else 0):=by
      unfold M7
      rw [if_pos hw]
      simp only [List.length_append]
      congr 1
      · congr 1
        · congr 1
          congr 1
          split<;>simp
        · split<;>simp
      · split<;>simp
     constructor
     · intro h
       simp only [Bool.and_eq_true,Bool.or_eq_true,decide_eq_true_eq,Bool.not_eq_true'] at h ⊢
       obtain ⟨⟨⟨⟨⟨h1,h2⟩,h3⟩,h4⟩,h5⟩,h6⟩:=h
       obtain ⟨⟨⟨⟨⟨⟨⟨⟨a1,a2⟩,a3⟩,a4⟩,a5⟩,a6⟩,a7⟩,a8⟩,a9⟩:=h6
       obtain ⟨⟨⟨⟨b1,b2⟩,b3⟩,b4⟩,b5⟩:=h4
       exact ⟨⟨⟨⟨⟨⟨⟨h1,a8⟩,a9⟩,b3,h5⟩,b4,a7⟩,b5,by simp [y5]⟩,h3⟩,⟨⟨⟨⟨⟨b1,a1⟩,a2⟩,a3⟩,a4⟩,a5⟩,a6⟩
     · intro h
       simp only [Bool.and_eq_true,Bool.or_eq_true,decide_eq_true_eq,Bool.not_eq_true'] at h ⊢
       obtain ⟨⟨⟨⟨⟨⟨⟨c1,c2⟩,c3⟩,c4⟩,c5⟩,c6⟩,c7⟩,c8⟩:=h
       obtain ⟨⟨⟨⟨⟨d1,d2⟩,d3⟩,d4⟩,d5⟩,d6⟩:=c8
       have e:=b2q d2
       refine ⟨⟨⟨⟨⟨c1,?_⟩,c7⟩,?_⟩,c4.2⟩,⟨⟨⟨⟨⟨⟨⟨⟨d1.2,d2⟩,d3⟩,d4⟩,d5⟩,d6⟩,c5.2⟩,c2⟩,c3⟩⟩
       · have q1:u.query.length≤(if u.hasQ then u.query.length+1 else 0):=by
          rcases c2 with h | h
          · rw [h];simp
          · rw [h];simp
         have q2:u.frag.length≤(if u.hasF then u.frag.length+1 else 0):=by
          rcases c3 with h | h
          · rw [h];simp
          · rw [h];simp
         have q3:u.user.length≤(if u.user=[] then 0 else u.user.length+1):=by
          split
          · rename_i h;rw [h];simp
          · omega
         omega
       · exact ⟨⟨⟨⟨d1.1,e⟩,c4.1⟩,c5.1⟩,c6.1⟩
   · rw [if_neg hw,if_neg hw]
     rw [Bool.eq_iff_iff]
     have hl:(M7 u).length=u.scheme.length+1+u.path.length:=by
      unfold M7
      rw [if_neg hw]
      simp;omega
     constructor
     · intro h
       simp only [Bool.and_eq_true,Bool.or_eq_true,decide_eq_true_eq,Bool.not_eq_true'] at h ⊢
       obtain ⟨⟨⟨⟨⟨h1,h2⟩,h3⟩,h4⟩,h5⟩,⟨⟨⟨⟨⟨⟨a1,a2⟩,a3⟩,a4⟩,a5⟩,a6⟩,a7⟩⟩:=h
       obtain ⟨⟨⟨⟨b1,b2⟩,b3⟩,b4⟩,b5⟩:=h4
       have e:y5 u.frag []=false:=by simp [y5]
       have e2:y5 u.query [35]=false:=by rw [a4];rfl
       refine ⟨⟨⟨⟨⟨⟨⟨h1,.inr a4⟩,.inr a5⟩,b3,h5⟩,b4,e2⟩,b5,by simp [y5]⟩,h3⟩,⟨⟨⟨⟨a1,a2⟩,a3⟩,a6⟩,a7⟩⟩
     · intro h
       simp only [Bool.and_eq_true,Bool.or_eq_true,decide_eq_true_eq,Bool.not_eq_true'] at h ⊢
       obtain ⟨⟨⟨⟨⟨⟨⟨c1,c2⟩,c3⟩,c4⟩,c5⟩,c6⟩,c7⟩,⟨⟨⟨⟨d1,d2⟩,d3⟩,d4⟩,d5⟩⟩:=h
       have q:u.query=[]:=by rcases c2 with h | h;(rw [d4] at h;cases h);exact h
       have f:u.frag=[]:=by rcases c3 with h | h;(rw [d5] at h;cases h);exact h
       refine ⟨⟨⟨⟨⟨c1,?_⟩,c7⟩,?_⟩,c4.2⟩,⟨⟨⟨⟨⟨⟨d1,d2⟩,d3⟩,q⟩,f⟩,d4⟩,d5⟩⟩
       · simp [d1,d2,q,f];omega
       · refine ⟨⟨⟨⟨?_,?_⟩,c4.1⟩,c5.1⟩,c6.1⟩<;>simp [d1,d2,y6]
 · have e1:a6a u=false:=by
    unfold a6a
    have h1:decide (0≤u.port∧u.port≤65535)=false:=by simp;omega
    have h2:decide (u.port=0)=false:=by simp;omega
    simp [h1,h2]
   have e2:n0 u=false:=by
    unfold n0
    have h1:decide (0≤u.port∧u.port≤65535)=false:=by simp;omega
    have h2:decide (u.port=0)=false:=by simp;omega
    simp [h1,h2]
   rw [e1,e2]
end Go.KP
end
section
namespace Go.KP
theorem b0e {t:Tx} (h:(o0 t).2=true):n0 (o0 t).1=true:=by
 unfold o0 a22 at h ⊢
 split at h
 · rename_i h1
   rw [if_pos h1]
   dsimp only at h ⊢
   split at h
   · rename_i h2
     rw [if_pos h2]
     split at h
     · rename_i h3
       rw [if_pos h3]
       split at h
       · cases h
       · exact h
     · cases h
   · rename_i h2
     rw [if_neg h2]
     exact h
 · cases h
theorem a6u {u:LUrl} (h:n0 u=true):0≤u.port:=by
 unfold n0 at h
 simp only [Bool.and_eq_true] at h
 obtain ⟨_,h⟩:=h
 split at h
 · simp only [Bool.and_eq_true,decide_eq_true_eq] at h
   exact h.1.1.1.2.1
 · simp only [Bool.and_eq_true,decide_eq_true_eq] at h
   omega
theorem a8n:∀ (n:Nat),(Y2 n).all o5=true:=by
 intro n
 induction n using Nat.strongRecOn with
 | ind n ih=>
  by_cases h:n < 10
  · rw [W2 h]
    simp [o5]
    omega
  · rw [a02 h,List.all_append,ih (n / 10) (by omega)]
    simp [o5]
    omega
end Go.KP
end
section
namespace Go.KP
theorem b0s (k:Nat) (h:k < 10):(UInt8.ofNat (48+k)).toNat=48+k:=by
 rw [UInt8.toNat_ofNat'];omega
theorem a30 (n:Nat):H6 (Y2 n)=n:=by
 induction n using Nat.strongRecOn with
 | ind n ih=>
  by_cases h:n < 10
  · rw [W2 h]
    have:=b0s n h
    simp only [H6,List.foldl_cons,List.foldl_nil,this];omega
  · rw [a02 h,a3z,ih (n / 10) (by omega),b0s _ (by omega)]
    omega
theorem b1f (n:Nat):Y2 n≠[]:=by
 by_cases h:n < 10
 · rw [W2 h];simp
 · rw [a02 h];simp
theorem b60 (n:Nat) (h0:n≠0):((Y2 n).getD 0 0).toNat≠48:=by
 induction n using Nat.strongRecOn with
 | ind n ih=>
  by_cases h:n < 10
  · rw [W2 h]
    have:=b0s n h
    simp only [List.getD_cons_zero,this];omega
  · rw [a02 h]
    have h1:=ih (n / 10) (by omega) (by omega)
    cases hl:Y2 (n / 10) with
    | nil=>exact absurd hl (b1f _)
    | cons c r=>rw [hl] at h1;simpa using h1
theorem a6z {c:UInt8} (h:o5 c=true):UInt8.ofNat (48+(c.toNat - 48))=c:=by
 simp only [o5,decide_eq_true_eq] at h
 apply UInt8.toNat_inj.1
 rw [b0s _ (by omega)];omega
theorem b6z:∀ (k:Nat) (t:Tx),t.length=k→t≠[]→t.all o5=true→((t.getD 0 0).toNat=48→t.length=1)→Y2 (H6 t)=t:=by
 intro k
 induction k with
 | zero=>intro t ht h;exact absurd (List.eq_nil_of_length_eq_zero ht) h
 | succ k ih=>
  intro t ht hne ha hz
  obtain ⟨r,c,rfl⟩:∃ r c,t=r++[c]:=⟨t.dropLast,t.getLast hne,(List.dropLast_concat_getLast _).symm⟩
  simp only [List.all_append,Bool.and_eq_true] at ha
  have hc:o5 c=true:=by simpa using ha.2
  have hc':=hc
  simp only [o5,decide_eq_true_eq] at hc'
  rw [a3z]
  cases r with
  | nil=>
   rw [show H6 []*10+(c.toNat - 48)=c.toNat - 48 by simp [H6]]
   rw [W2 (by omega),a6z hc];rfl
  | cons d r=>
   have hd:d.toNat≠48:=fun e=>by
    have:=hz (by simpa using e)
    simp at this
   have hi:=ih (d :: r) (by simpa using ht) (by simp) ha.1 (fun e=>absurd (by simpa using e) hd)
   have hpos:H6 (d :: r)≠0:=fun e=>by
    rw [e,W2 (by omega)] at hi
    have h2:UInt8.ofNat 48=d:=by simpa using (List.cons.inj hi).1
    exact hd (by rw [← h2];rfl)
   rw [a02 (by omega)]
   have e1:(H6 (d :: r)*10+(c.toNat - 48)) / 10=H6 (d :: r):=by omega
   have e2:(H6 (d :: r)*10+(c.toNat - 48)) % 10=c.toNat - 48:=by omega
   rw [e1,e2,hi,a6z hc]
def Q2 (t:Tx):Nat:=match t with
 | []=>0
 | c :: r=>if c=45 then r.length else (c :: r).length
theorem a6s (neg:Bool) (n:Nat) (h18:(Y2 n).length≤18) (hn:neg=true→n≠0):Z9 neg (Y2 n)=false:=by
 unfold Z9
 have h1:(Y2 n).length≠0:=fun e=>b1f n (List.eq_nil_of_length_eq_zero e)
 by_cases h0:n=0
 · subst h0
   cases neg with
   | true=>exact absurd rfl (hn rfl)
   | false=>rw [W2 (by omega)];simp
 · have h2:=b60 n h0
   have e1:decide ((Y2 n).length=0∨18 < (Y2 n).length)=false:=by simp only [decide_eq_false_iff_not];omega
   have e2:decide (((Y2 n).getD 0 0).toNat=48)=false:=by simp only [decide_eq_false_iff_not];exact h2
   rw [e1,e2];rfl
theorem b1d (n:Int) (h:Q2 (a17 n)≤18):K6 (a17 n)=some n:=by
 unfold a17 at h ⊢
 by_cases h0:n < 0
 · rw [if_pos h0] at h ⊢
   have h':(Y2 (-n).toNat).length≤18:=by simpa [Q2] using h
   simp only [K6,if_true,W6]
   rw [a6s true _ h' (fun _=>by omega),if_neg (by simp),if_pos (a8n _),a30]
   simp;omega
 · rw [if_neg h0] at h ⊢
   cases hl:Y2 n.toNat with
   | nil=>exact absurd hl (b1f _)
   | cons c r=>
    have hd:=a8n n.toNat
    rw [hl] at hd h
    have hc:c≠45:=fun e=>by subst e;simp [o5] at hd
    have h':(Y2 n.toNat).length≤18:=by rw [hl];simpa [Q2,hc] using h
    simp only [K6,hc,if_false]
    rw [← hl]
    simp only [W6]
    rw [a6s false _ h' (fun e=>by cases e),if_neg (by simp),if_pos (a8n _),a30]
    simp;omega
theorem a5g {t:Tx} {n:Int} (h:K6 t=some n):a17 n=t∧Q2 t≤18 ∧
 ∃ u:Tx,u≠[]∧u.all o5=true∧u.length≤18∧((t=45 :: u∧n=-(H6 u:Int))∨(t=u∧n=H6 u)):=by
 have key:∀ (neg:Bool) (u:Tx),W6 neg u=some n→u≠[]∧u.length≤18∧u.all o5=true∧Y2 (H6 u)=u∧(neg=true→H6 u≠0)∧n=(if neg then - (H6 u:Int) else (H6 u:Int)):=by
  intro neg u hu
  unfold W6 at hu
  split at hu
  · cases hu
  · rename_i hb
    split at hu
    · rename_i ha
      have hn:=(Option.some.inj hu).symm
      have hb':Z9 neg u=false:=by simpa using hb
      unfold Z9 at hb'
      rw [Bool.or_eq_false_iff] at hb'
      obtain ⟨q1,q2⟩:=hb'
      rw [decide_eq_false_iff_not] at q1
      have hne:u≠[]:=fun e=>q1 (by rw [e];simp)
      have hz:(u.getD 0 0).toNat=48→u.length=1∧neg=false:=fun e=>by
       rw [Bool.and_eq_false_iff] at q2
       rcases q2 with q2 | q2
       · simp only [decide_eq_false_iff_not] at q2;exact absurd e q2
       · rw [Bool.or_eq_false_iff,decide_eq_false_iff_not] at q2
         have:u.length≠0:=fun e=>hne (List.eq_nil_of_length_eq_zero e)
         exact ⟨by omega,q2.2⟩
      have hl:=b6z u.length u rfl hne ha (fun e=>(hz e).1)
      refine ⟨hne,by omega,ha,hl,fun hneg h0=>?_,hn⟩
      rw [h0,W2 (by omega)] at hl
      have:=(hz (by rw [← hl];rfl)).2
      rw [hneg] at this;cases this
    · cases hu
 unfold K6 at h
 split at h
 · cases h
 · rename_i c r
   split at h
   · rename_i hc
     subst hc
     obtain ⟨h1,h2,h3,h4,h5,h6⟩:=key true r h
     simp only [if_true] at h6
     have h5':=h5 rfl
     refine ⟨?_,by simpa [Q2] using h2,r,h1,h3,h2,.inl ⟨rfl,h6⟩⟩
     unfold a17
     rw [if_pos (by omega),h6]
     rw [show (- -(H6 r:Int)).toNat=H6 r by omega,h4]
   · rename_i hc
     obtain ⟨h1,h2,h3,h4,h5,h6⟩:=key false (c :: r) h
     have h6:n=(H6 (c :: r):Int):=h6
     refine ⟨?_,by simpa [Q2,hc] using h2,c :: r,h1,h3,h2,.inr ⟨rfl,h6⟩⟩
     unfold a17
     rw [if_neg (by omega),h6]
     rw [show ((H6 (c :: r):Int)).toNat=H6 (c :: r) by omega,h4]
end Go.KP
end
section
namespace Go.KP
theorem a2k {t:Tx} (ht:t.length < 1099511627776):(o0 t).1.Small:=by
 have hz:LUrl.zero.Small:=by simp [LUrl.Small,LUrl.zero]
 have hA:∀ (t:Tx) c,(i6 t c).length≤t.length:=o7
 have hB:∀ (t:Tx) c,(k7 t c).length≤t.length:=Q1
 unfold o0
 split
 · have h1:(o8 (i6 t 58)).length≤t.length:=by have:=hA t 58;simpa [o8] using this
   have h2:=hB t 58
   dsimp only
   split
   · split
     · unfold a22
       dsimp only
       have h3:((k7 t 58).drop 2).length≤t.length:=by simp;omega
       generalize (k7 t 58).drop 2=r0 at h3
       have h4:=hA r0 35
       have h4':=hB r0 35
       generalize i6 r0 35=r1 at h4
       have h5:=hA r1 63
       have h5':=hB r1 63
       generalize i6 r1 63=r2 at h5
       have h6:=hA r2 47
       generalize i6 r2 47=r3 at h6
       have h7:=hA r3 64
       have h7':(if 64∈r3 then k7 r3 64 else r3).length≤r3.length:=by
        split
        · exact hB r3 64
        · omega
       generalize (if 64∈r3 then k7 r3 64 else r3)=r4 at h7'
       have h8:(o8 (i6 r4 58)).length≤r4.length:=by have:=hA r4 58;simpa [o8] using this
       split
       · exact hz
       · rename_i p hp
         refine ⟨by show (o8 _).length < _;omega,?_,by show (o8 _).length < _;omega,?_,by show (k7 r1 63).length < _;omega,by show (k7 r0 35).length < _;omega,?_⟩
         · show (if 64∈r3 then i6 r3 64 else []).length < _
           split
           · omega
           · simp
         · show (if 47∈r2 then r2.drop (k8 r2 47) else [47]).length < _
           split
           · simp;omega
           · simp
         · show p≤_
           unfold Z7 at hp
           split at hp
           · split at hp
             · split at hp
               · have:=Option.some.inj hp
                 split at this<;>omega
               · cases hp
             · cases hp
           · have:=Option.some.inj hp;omega
     · exact hz
   · have h3:=hA (k7 t 58) 35
     have h4:=hA (i6 (k7 t 58) 35) 63
     refine ⟨by show (o8 _).length < _;omega,by simp,by simp,by show (i6 _ _).length < _;omega,by simp,by simp,by show (0:Int)≤_;omega⟩
 · exact hz
def LTarget.Small (x:LTarget):Prop:=x.url.length < 1099511627776
end Go.KP
end
section
namespace Go.KP
def LUrl.Tiny (u:LUrl):Prop:=u.scheme.length < 1048577∧u.user.length < 1048577∧u.host.length < 1048577∧u.path.length < 1048577∧u.query.length < 1048577∧u.frag.length < 1048577∧(0≤u.port∧u.port≤65535)
theorem a1q {t:Tx} (ht:t.length < 1048577):(o0 t).1.Tiny:=by
 have hz:LUrl.zero.Tiny:=by simp [LUrl.Tiny,LUrl.zero]
 have hA:∀ (t:Tx) c,(i6 t c).length≤t.length:=o7
 have hB:∀ (t:Tx) c,(k7 t c).length≤t.length:=Q1
 unfold o0
 split
 · have h1:(o8 (i6 t 58)).length≤t.length:=by have:=hA t 58;simpa [o8] using this
   have h2:=hB t 58
   dsimp only
   split
   · split
     · unfold a22
       dsimp only
       have h3:((k7 t 58).drop 2).length≤t.length:=by simp;omega
       generalize (k7 t 58).drop 2=r0 at h3
       have h4:=hA r0 35
       have h4':=hB r0 35
       generalize i6 r0 35=r1 at h4
       have h5:=hA r1 63
       have h5':=hB r1 63
       generalize i6 r1 63=r2 at h5
       have h6:=hA r2 47
       generalize i6 r2 47=r3 at h6
       have h7:=hA r3 64
       have h7':(if 64∈r3 then k7 r3 64 else r3).length≤r3.length:=by
        split
        · exact hB r3 64
        · omega
       generalize (if 64∈r3 then k7 r3 64 else r3)=r4 at h7'
       have h8:(o8 (i6 r4 58)).length≤r4.length:=by have:=hA r4 58;simpa [o8] using this
       split
       · exact hz
       · rename_i p hp
         refine ⟨by show (o8 _).length < _;omega,?_,by show (o8 _).length < _;omega,?_,by show (k7 r1 63).length < _;omega,by show (k7 r0 35).length < _;omega,?_⟩
         · show (if 64∈r3 then i6 r3 64 else []).length < _
           split
           · omega
           · simp
         · show (if 47∈r2 then r2.drop (k8 r2 47) else [47]).length < _
           split
           · simp;omega
           · simp
         · show 0≤p∧p≤65535
           unfold Z7 at hp
           split at hp
           · split at hp
             · split at hp
               · have:=Option.some.inj hp
                 split at this<;>omega
               · cases hp
             · cases hp
           · have:=Option.some.inj hp;omega
     · exact hz
   · have h3:=hA (k7 t 58) 35
     have h4:=hA (i6 (k7 t 58) 35) 63
     refine ⟨by show (o8 _).length < _;omega,by simp,by simp,by show (i6 _ _).length < _;omega,by simp,by simp,by show (0:Int)≤0∧(0:Int)≤65535;omega⟩
 · exact hz
end Go.KP
end
section
namespace Go.KP
def b8h (now:Int) (x:LPeer):Bool:=!x.gone && decide (x.retry≤now)
def chMatch (now b:Int) (x:LPeer):Bool:=b8h now x && decide (x.target.prio=b)
def chSum (now b:Int):List LPeer→Int
 | []=>0
 | x :: l=>(if chMatch now b x then x.target.weight else 0)+chSum now b l
structure ChInv (now:Int) (l:List LPeer) (a:Int×Int):Prop where
 lo:0≤a.2
 hi:a.2≤9*l.length
 sum:a.2=if a.2=0 then 0 else chSum now a.1 l
 low:∀ x∈l,b8h now x=true→a.1≤x.target.prio∧0 < a.2
 nine:a.2≠0→1≤a.1∧a.1≤9
end Go.KP
end
section
namespace Go.KP
def a9q (k:Nat) (out:Tx):Tx:=if h:k=0 then out else a9q (k / 10) (UInt8.ofNat (48+k % 10) :: out)
termination_by k
decreasing_by omega
theorem b6y (out:Tx):a9q 0 out=out:=by rw [a9q];simp
theorem b8k {k:Nat} (h:k≠0) (out:Tx):a9q k out=a9q (k / 10) (UInt8.ofNat (48+k % 10) :: out):=by
 conv=>lhs;rw [a9q]
 simp [h]
def lmk (k:Nat):Tx:=if k=0 then [109,48] else 109 :: a9q k []
end Go.KP
end
section
namespace Go.KP
end Go.KP
end
section
namespace Go.KP
def bdS {α:Type} (B:Nat) (p:α→Prop) (l:List α):Prop:=l.length≤B∧∀ x∈l,p x
def cut (left:Int) (n:Nat):Int:=if left - n < 0 then -1 else left - n
theorem a32 {left:Int} {n:Nat} (h:left - n < 0):cut left n=-1:=if_pos h
theorem cut_pos {left:Int} {n:Nat} (h:¬ left - n < 0):cut left n=left - n:=if_neg h
theorem b7c {left:Int} {n:Nat} (h:¬ cut left n < 0) (h0:0≤left):(n:Int)≤left∧cut left n=left - n:=by
 unfold cut at *
 split at h<;>rename_i h1
 · omega
 · rw [if_neg h1];omega
structure LGroup where
 name:Tx
 age:Int
 targets:List LTarget
 deriving DecidableEq
structure LRule where
 name:Tx
 words:List Tx
 deriving DecidableEq
structure LPolicy where
 reportTo:Tx
 uris:List Tx
 rules:List LRule
 deriving DecidableEq
structure LViolation where
 document:Tx
 referrer:Tx
 blocked:Tx
 source:Tx
 directive:Tx
 sample:Tx
 line:Int
 column:Int
 redirected:Bool
 deriving DecidableEq
def a08 (x:LViolation):Nat:=x.document.length+x.referrer.length+x.blocked.length+x.source.length+x.directive.length+x.sample.length
def C9 (B:Nat) (x:LViolation):Prop:=x.document.length≤B∧x.referrer.length≤B∧x.blocked.length≤B∧x.source.length≤B∧x.directive.length≤B∧x.sample.length≤B
theorem a9m {B:Nat} {x:LViolation} (h:a08 x≤B):C9 B x:=by
 unfold a08 at h
 unfold C9
 exact ⟨by omega,by omega,by omega,by omega,by omega,by omega⟩
structure LReport where
 id:Int
 born:Int
 tries:Int
 body:Tx
 deriving DecidableEq
structure LQueue where
 items:List LReport
 recent:List Tx
 deriving DecidableEq
structure LChannel where
 group:LGroup
 peers:List LPeer
 queue:LQueue
 deriving DecidableEq
structure LEntry where
 kind:Int
 id:Int
 at_:Int
 deriving DecidableEq
structure LWire where
 at_:Int
 status:Int
 group:Tx
 url:Tx
 ids:List Int
 body:Tx
 lost:Bool
 deriving DecidableEq
structure LPipe where
 channels:List LChannel
 policy:LPolicy
 now:Int
 next:Int
 log:List LEntry
 wires:List LWire
 deriving DecidableEq
structure LEvent where
 kind:Int
 draw:Int
 status:Int
 ticks:Int
 text:Tx
 name:Tx
 violation:LViolation
 lost:Bool
 deriving DecidableEq
structure LParcel where
 id:Int
 age:Int
 body:Tx
 deriving DecidableEq
structure LBox where
 ids:List Int
 times:List Int
 bodies:List Tx
 deriving DecidableEq
end Go.KP
end
section
namespace Go.KP
def X3 (p q:UInt8→Bool) (t:Tx):Bool:=(t.take 1).all p && t.all q
theorem a5l {p q:UInt8→Bool} (hpq:∀ c,p c=true→q c=true) (t:Tx) (i:Nat) (h:i < t.length):X3 p q (t.take (i+1))=(X3 p q (t.take i) && (if i=0 then p t[i] else q t[i])):=by
 unfold X3
 rw [X0 t _ i h]
 by_cases hi:i=0
 · subst hi
   have:(t.take (0+1)).take 1=[t[0]]:=by
    cases t with
    | nil=>simp at h
    | cons c r=>simp
   rw [this]
   have:=hpq t[0]
   cases hp:p t[0]<;>simp_all
 · have e1:(t.take (i+1)).take 1=t.take 1:=by rw [List.take_take,Nat.min_eq_left (by omega)]
   have e2:(t.take i).take 1=t.take 1:=by rw [List.take_take,Nat.min_eq_left (by omega)]
   rw [e1,e2]
   simp [hi,Bool.and_assoc]
theorem a4f {p q:UInt8→Bool} (t:Tx) (i:Nat) (h:i < t.length) (hb:(if i=0 then p t[i] else q t[i])=false):X3 p q t=false:=by
 unfold X3
 by_cases hi:i=0
 · subst hi
   rw [if_pos rfl] at hb
   cases t with
   | nil=>simp at h
   | cons c r=>simp at hb;simp [hb]
 · rw [if_neg hi] at hb
   have:t.all q=false:=by rw [List.all_eq_false];exact ⟨t[i],List.getElem_mem h,by simp [hb]⟩
   simp [this]
def Y6 (c:UInt8):Bool:=m0 c || decide (c.toNat=45)
def R3 (t:Tx):Bool:=decide (1≤t.length∧t.length≤24) && X3 m0 Y6 t
end Go.KP
end
section
namespace Go.KP
def mkL {α:Type} (f:Nat→α) (w n k:Nat):List α:=(List.range n).map fun j=>f (k+w*j)
theorem R1 {α:Type} (f:Nat→α) (w n k:Nat):(mkL f w n k).length=n:=by simp [mkL]
theorem b8g {α:Type} {f:Nat→α} {w n k j:Nat} (h:j < n):(mkL f w n k)[j]'(by rw [R1];exact h)=f (k+w*j):=by simp [mkL]
theorem b8f {α:Type} (f:Nat→α) (w i k:Nat):mkL f w (i+1) k=mkL f w i k++[f (k+w*i)]:=by simp [mkL,List.range_succ]
def mkU {α:Type} (f:Nat→α) (w:Nat) (l:List α) (k i:Nat):List α:=mkL f w i k++l.drop i
theorem b2i {α:Type} (f:Nat→α) (w:Nat) (l:List α) (k:Nat):mkU f w l k 0=l:=by simp [mkU,mkL]
theorem b5z {α:Type} (f:Nat→α) (w:Nat) (l:List α) (k:Nat):mkU f w l k l.length=mkL f w l.length k:=by simp [mkU]
theorem b5y {α:Type} (f:Nat→α) (w:Nat) (l:List α) (k i:Nat) (h:i≤l.length):(mkU f w l k i).length=l.length:=by simp [mkU,R1];omega
theorem b5x {α:Type} (f:Nat→α) (w:Nat) (l:List α) (k i:Nat) (h:i < l.length):(mkU f w l k i).set i (f (k+w*i))=mkU f w l k (i+1):=by
 unfold mkU
 rw [List.set_append_right _ _ (by rw [R1];exact Nat.le_refl _),R1,Nat.sub_self,List.drop_eq_getElem_cons h,List.set_cons_zero,b8f,List.append_assoc]
 rfl
end Go.KP
end
section
namespace Go.KP
end Go.KP
end
section
namespace Go.KP
theorem cutU {c:UInt8}:∀ {a a' b b':Tx},c∉a→c∉a'→(b=[]∨∃ r,b=c :: r)→(b'=[]∨∃ r,b'=c :: r)→a++b=a'++b'→a=a'∧b=b'
 | [],[],_,_,_,_,_,_,h=>⟨rfl,h⟩
 | [],x :: a',b,b',_,ha,hb,_,h=>by
  exfalso
  rcases hb with rfl | ⟨r,rfl⟩
  · simp at h
  · simp only [List.nil_append,List.cons_append,List.cons.injEq] at h
    exact ha (by simp [h.1])
 | x :: a,[],b,b',ha,_,_,hb,h=>by
  exfalso
  rcases hb with rfl | ⟨r,rfl⟩
  · simp at h
  · simp only [List.nil_append,List.cons_append,List.cons.injEq] at h
    exact ha (by simp [h.1])
 | x :: a,y :: a',b,b',ha,ha',hb,hb',h=>by
  simp only [List.cons_append,List.cons.injEq] at h
  obtain ⟨h1,h2⟩:=cutU (fun k=>ha (List.mem_cons_of_mem _ k)) (fun k=>ha' (List.mem_cons_of_mem _ k)) hb hb' h.2
  exact ⟨by rw [h.1,h1],h2⟩
end Go.KP
end
section
namespace Go.PW
open Go.RowKit Go.KP
theorem u8_eq {a b:UInt8}:((a.toNat:Int)=(b.toNat:Int))↔a=b:=by
 constructor
 · intro h;exact UInt8.toNat_inj.1 (by omega)
 · rintro rfl;rfl
def rvb (c:UInt8):RV:=.int .u8 c.toNat
def tx (t:Tx):RV:=.str (bs t)
def num (n:Int):RV:=.int .i64 n
theorem b3m (l:Tx):P5 (l.map rvb)=bs l:=by
 unfold P5 bs
 congr 1
 congr 1
 rw [List.map_map]
 have:(RV.byte ∘ rvb)=id:=by
  funext c
  simp [rvb,RV.byte]
 rw [this];simp
theorem a7d {x:Int} (h1:0≤x) (h2:x < 256):IntKind.u8.wrap x=x:=by
 unfold IntKind.wrap
 simp [IntKind.bits,IntKind.signed]
 omega
def p6 (u:LUrl):RV:=.agg [tx u.scheme,tx u.user,tx u.host,num u.port,tx u.path,tx u.query,tx u.frag,.bool u.hasQ,.bool u.hasF]
end Go.PW
end
section
namespace Go.PW
open Go.RowKit Go.KP
variable [GF]
theorem b2b (φ:Nat→Option RV) (rs:List RV):PV.plL (PV.frzL φ (rs.map .val))=rs.map .val:=by
 induction rs with
 | nil=>rfl
 | cons r rs ih=>simp [PV.frzL,PV.plL,PV.frz,PV.pl,ih]
theorem b5o {st:St} {s n t id:Nat} {rs:List RV} {r:RV} (h1:st.env s=.ptr id 0) (h2:st.mem id=.box (rs.map .val)) (h3:rs.length=n) (h4:0 < n) (h5:st.env t=.val r) :
 J8 [.c s true n,.t t] st.fin=some (.tup [l4 (rs.map .val),.val r]):=by
 have e1:st.fin.env s=.ptr id 0:=by rw [K2,h1];simp [PV.frz,Y7,h2,PV.pl]
 have e2:st.fin.mem id=.box (rs.map .val):=by
  simp only [St.fin,St.freeze,h2,MObj.pl,b2b]
 have e3:st.fin.env t=.val r:=by rw [K2,h5];rfl
 simp only [J8,a1o,a5w,e1,e2,e3]
 simp only [List.length_map,h3,Nat.zero_add,List.drop_zero,if_true]
 rw [if_pos ⟨by omega,h4⟩,List.take_of_length_le (by simp [h3])]
 rfl
theorem resP_c {st:St} {s n id:Nat} {rs:List RV} (h1:st.env s=.ptr id 0) (h2:st.mem id=.box (rs.map .val)) (h3:rs.length=n) (h4:0 < n) :
 J8 [.c s true n] st.fin=some (l4 (rs.map .val)):=by
 have e1:st.fin.env s=.ptr id 0:=by rw [K2,h1];simp [PV.frz,Y7,h2,PV.pl]
 have e2:st.fin.mem id=.box (rs.map .val):=by
  simp only [St.fin,St.freeze,h2,MObj.pl,b2b]
 simp only [J8,a5w,e1,e2]
 simp only [List.length_map,h3,Nat.zero_add,List.drop_zero,if_true]
 rw [if_pos ⟨by omega,h4⟩,List.take_of_length_le (by simp [h3])]
def a6i (u:LUrl):List RV:=[tx u.scheme,tx u.user,tx u.host,num u.port,tx u.path,tx u.query,tx u.frag,.bool u.hasQ,.bool u.hasF]
def b9 (u:LUrl):List PV:=[.val (tx u.scheme),.val (tx u.user),.val (tx u.host),.val (num u.port),.val (tx u.path),.val (tx u.query),.val (tx u.frag),.val (.bool u.hasQ),.val (.bool u.hasF)]
theorem a6j (u:LUrl):b9 u=(a6i u).map .val:=rfl
def U7 (r:LUrl×Bool):PV:=.tup [.val (p6 r.1),.val (.bool r.2)]
theorem b0d (u:LUrl):l4 ((a6i u).map .val)=.val (p6 u):=by simp [a6i,l4,d9,p6]
theorem a28 {st:St} {s t id:Nat} {u:LUrl} {b:Bool} (h1:st.env s=.ptr id 0) (h2:st.mem id=.box (b9 u)) (h5:st.env t=.val (.bool b)):J8 [.c s true 9,.t t] st.fin=some (U7 (u,b)):=by
 rw [b5o (n:=9) (rs:=a6i u) h1 (by rw [h2,a6j]) rfl (by omega) h5,b0d]
 rfl
def a74 (x:LTarget):RV:=.agg [tx x.url,num x.prio,num x.weight]
def b72 (x:LPeer):RV:=.agg [tx x.target.url,num x.target.prio,num x.target.weight,num x.fails,num x.retry,.bool x.gone]
theorem W9 {P:Program} {st:St} {Ke:Kx (PV→St→Prop)} {kx:Kx (RV→St→Prop)} {d f ps as p} (ha:a0z st.mem ps=some as) (hb:boxIds ps=[]) (hs:∀ b,p.shift b=p) (ho:p.ownLt 0=true) (hr:ps.all PV.noOwn=true∨p.flat=true) (h:f9 P f as (.ret p []) []) (hK:Ke.k p st):KC P st d f ps (Ke:=Ke) (kx:=kx):=by
 refine a1g (K:=fun q st'=>q=p∧st'=st) (kx:=fun _ _=>False) (fun p s hh=>by obtain ⟨rfl,rfl⟩:=hh;exact hK) (fun _ _ hh=>hh.elim) (a1v ?_)
 unfold a0y
 rw [ha]
 exact ⟨hb,p,h,hs,ho,hr,rfl⟩
theorem a0d {P:Program} {st:St} {Ke:Kx (PV→St→Prop)} {kx:Kx (RV→St→Prop)} {d f ps as a b} (ha:a0z st.mem ps=some as) (hb:boxIds ps=[]) (hr:ps.all PV.noOwn=true∨(PV.tup [.val a,.val b]).flat=true) (h:f9 P f as (.ret (.tup [.val a,.val b]) []) []) (hK:Ke.k (.tup [.val a,.val b]) st):KC P st d f ps (Ke:=Ke) (kx:=kx):=
 W9 ha hb (fun _=>rfl) rfl hr h hK
theorem V8 {P:Program} {st:St} {Ke:Kx (PV→St→Prop)} {kx:Kx (RV→St→Prop)} {d f ps as a b c} (ha:a0z st.mem ps=some as) (hb:boxIds ps=[]) (hr:ps.all PV.noOwn=true∨(PV.tup [.val a,.val b,.val c]).flat=true) (h:f9 P f as (.ret (.tup [.val a,.val b,.val c]) []) []) (hK:Ke.k (.tup [.val a,.val b,.val c]) st):KC P st d f ps (Ke:=Ke) (kx:=kx):=
 W9 ha hb (fun _=>rfl) rfl hr h hK
end Go.PW
end
section
namespace Go.PW
open Go.RowKit Go.KP
variable [GF]
def RV.sv:RV→Option Value
 | .str s=>some (.string s)
 | .int k n=>some (.int k n)
 | .bool b=>some (.bool b)
 | _=>none
def svs:List RV→Option (List Value)
 | []=>some []
 | r :: rs=>match r.sv,svs rs with
  | some v,some vs=>some (v :: vs)
  | _,_=>none
theorem sv_rep {L:Nat→Prop} {w:World} {r:RV} {v u:Value} (h:r.sv=some v) (hr:RepR L w r u):u=v:=by
 cases hr with
 | bool b=>simpa [RV.sv] using h
 | int k n=>simpa [RV.sv] using h
 | str s=>simpa [RV.sv] using h
 | _=>simp [RV.sv] at h
theorem b5j {L:Nat→Prop} {w:World} {r:RV} {v:Value} (h:r.sv=some v):RepR L w r v:=by
 cases r with
 | bool b=>simp [RV.sv] at h;subst h;exact .bool b
 | int k n=>simp [RV.sv] at h;subst h;exact .int k n
 | str s=>simp [RV.sv] at h;subst h;exact .str s
 | _=>simp [RV.sv] at h
theorem b1u {L:Nat→Prop} {w:World}:∀ {rs:List RV} {vals vs:List Value} {ms:List Nat},svs rs=some vals→ArgsRep L w (rs.map .val) vs ms→vs=vals∧ms=[]
 | [],vals,vs,ms,h,hr=>by
  simp [svs] at h;subst h
  cases hr;exact ⟨rfl,rfl⟩
 | r :: rs,vals,vs,ms,h,hr=>by
  rw [List.map_cons] at hr
  cases hr with
  | cons _ _ v vs' ms1 ms2 h1 h2=>
   cases h1 with
   | val _ _ h1=>
    simp only [svs] at h
    split at h
    · rename_i v' vs'' e1 e2
      obtain ⟨rfl,rfl⟩:=b1u e2 h2
      have:=sv_rep e1 h1
      subst this
      have:=Option.some.inj h
      exact ⟨this,rfl⟩
    · cases h
theorem a6t {F:Ctx} {γ:Nat→Value} {w:World}:MemInv F γ (l7 []) w:=
 ⟨fun id cs h=>by simp [l7] at h,fun id E sz xs h=>by simp [l7] at h,fun id E sz n c h=>by simp [l7] at h,fun id s clk m h=>by simp [l7] at h,fun id id' b h=>by simp [l7,MObj.live] at h⟩
theorem b0k {P:Program} {f:Nat} {rs:List RV} {vals:List Value} {p:PV} {v:Value} (ha:svs rs=some vals) (hp:∀ γ L w,RepP γ L w p v)
 (h:∀ L w,Globs L w→a9l L w→Calls P f vals.toArray w fun e w'=>e=.returned v∧Below w.heap.size w w'):f9 P f (rs.map .val) (.ret p []) []:=by
 intro L w vs ms hL hgl hgb hargs hnd
 obtain ⟨rfl,rfl⟩:=b1u ha hargs
 refine (h L w hgl hgb).mono fun e w' ⟨he,hb⟩=>?_
 exact ⟨Outside.of_below hb,v,fun _=>undef,he,hp _ _ _,a6t,rfl,fun i b cells h1 h2=>by simp at h1⟩
theorem a0e {P:Program} {f:Nat} {rs:List RV} {vals:List Value} {r:RV} {v:Value} (ha:svs rs=some vals) (hv:r.sv=some v)
 (h:∀ L w,Globs L w→a9l L w→Calls P f vals.toArray w fun e w'=>e=.returned v∧Below w.heap.size w w'):f9 P f (rs.map .val) (.ret (.val r) []) []:=
 b0k ha (fun γ L w=>.val _ _ (b5j hv)) h
theorem a7v:∀ {rs:List RV} {vals:List Value},svs rs=some vals→vals.length=rs.length
 | [],vals,h=>by simp [svs] at h;subst h;rfl
 | r :: rs,vals,h=>by
  simp only [svs] at h
  split at h
  · rename_i v vs e1 e2
    have:=a7v e2
    have h:=Option.some.inj h
    subst h;simp [this]
  · cases h
theorem b1z {L:Nat→Prop} {w:World}:∀ {rs:List RV} {vals:List Value},svs rs=some vals→∀ i,i < rs.length→RepR L w (rs.getD i .nilptr) (vals.getD i undef)
 | [],vals,h,i,hi=>by simp at hi
 | r :: rs,vals,h,i,hi=>by
  simp only [svs] at h
  split at h
  · rename_i v vs e1 e2
    have h:=Option.some.inj h
    subst h
    cases i with
    | zero=>simpa using b5j e1
    | succ i=>simpa using b1z e2 i (by simpa using hi)
  · cases h
theorem a89 {P:Program} {f:Nat} {rs:List RV} {vals:List Value} {qs:List RV} {us:List Value} (ha:svs rs=some vals) (hv:svs qs=some us)
 (h:∀ L w,Globs L w→a9l L w→Calls P f vals.toArray w fun e w'=>e=.returned (.tuple us.toArray)∧Below w.heap.size w w'):f9 P f (rs.map .val) (.ret (.tup (qs.map .val)) []) []:=
 b0k ha (fun γ L w=>.tup _ _ (by simp [a7v hv]) fun i hi=>by
  have hi':i < qs.length:=by simpa using hi
  have e1:(qs.map PV.val).getD i .undef=.val (qs.getD i .nilptr):=by simp [List.getD_eq_getElem?_getD,List.getElem?_eq_getElem hi']
  have e2:us.toArray.getD i undef=us.getD i undef:=by simp [List.getD_eq_getElem?_getD,Array.getD_eq_getD_getElem?]
  rw [e1,e2]
  exact .val _ _ (b1z hv i hi')) h
theorem a1j {w w':World} (h:w'=w):Below w.heap.size w w':=by subst h;exact Below.refl _ _
end Go.PW
end
section
namespace Go.PW
open Go.RowKit Go.KP
variable [GF]
def a5s (M:Nat→MObj):Nat→List (List RV)→Prop
 | _,[]=>True
 | k,b :: bs=>M (900+k)=.box (b.map .val)∧a5s M (k+1) bs
def RetB (res:List Rs) (p:PV) (B:List (List RV)):PExit→St→Prop
 | .normal,st=>J8 res st.fin=some p∧a5s st.mem 0 B
 | .ret,st=>J8 res st.fin=some p∧a5s st.mem 0 B
 | _,_=>False
@[simp] theorem RetB_ret {res p B} {st:St}:RetB res p B .ret st=(J8 res st.fin=some p∧a5s st.mem 0 B):=by rfl
@[simp] theorem RetB_normal {res p B} {st:St}:RetB res p B .normal st=(J8 res st.fin=some p∧a5s st.mem 0 B):=by rfl
end Go.PW
end
section
namespace Go.PW
open Go.RowKit Go.KP
theorem resP_cz [GF] {st:St} {s n id:Nat} {cs:List PV} {rs:List RV} (h1:st.env s=.ptr id 0) (h2:st.mem id=.box cs) (hz:PV.plL (PV.frzL (Y7 st fun _=>true) cs)=rs.map .val) (h3:rs.length=n) (h4:0 < n) :
 J8 [.c s true n] st.fin=some (l4 (rs.map .val)):=by
 have e1:st.fin.env s=.ptr id 0:=by rw [K2,h1];simp [PV.frz,Y7,h2,PV.pl]
 have e2:st.fin.mem id=.box (rs.map .val):=by
  simp only [St.fin,St.freeze,h2,MObj.pl]
  rw [hz]
 simp only [J8,a5w,e1,e2]
 simp only [List.length_map,h3,Nat.zero_add,List.drop_zero,if_true]
 rw [if_pos ⟨by omega,h4⟩,List.take_of_length_le (by simp [h3])]
def b8b {α:Type} (sz id:Nat):List α→PV
 | []=>.emp sz
 | _ :: _=>.own id
def rowOr {α:Type} (E sz:Nat) (r:α→RV):List α→MObj
 | []=>.dead
 | x :: xs=>.row E sz ((x :: xs).map r)
@[simp] theorem ownOr_nil {α:Type} (sz id:Nat):b8b sz id ([]:List α)=.emp sz:=rfl
@[simp] theorem ownOr_cons {α:Type} (sz id:Nat) (x:α) (xs:List α):b8b sz id (x :: xs)=.own id:=rfl
@[simp] theorem rowOr_nil {α:Type} (E sz:Nat) (r:α→RV):rowOr E sz r []=.dead:=rfl
@[simp] theorem rowOr_cons {α:Type} (E sz:Nat) (r:α→RV) (x:α) (xs:List α):rowOr E sz r (x :: xs)=.row E sz (r x :: xs.map r):=rfl
@[simp] theorem rvTarget_len (x:LTarget):(a74 x).cells.length=3:=rfl
@[simp] theorem rvPeer_len (x:LPeer):(b72 x).cells.length=6:=rfl
def rvGroup (x:LGroup):RV:=.agg [tx x.name,num x.age,.list 3 (x.targets.map a74)]
@[simp] theorem rvGroup_len (x:LGroup):(rvGroup x).cells.length=3:=rfl
def a5u (x:LRule):RV:=.agg [tx x.name,.list 1 (x.words.map tx)]
@[simp] theorem rvRule_len (x:LRule):(a5u x).cells.length=2:=rfl
def b71 (x:LPolicy):RV:=.agg [tx x.reportTo,.list 1 (x.uris.map tx),.list 2 (x.rules.map a5u)]
@[simp] theorem rvPolicy_len (x:LPolicy):(b71 x).cells.length=3:=rfl
def j3 (x:LViolation):RV:=.agg [tx x.document,tx x.referrer,tx x.blocked,tx x.source,tx x.directive,tx x.sample,num x.line,num x.column,.bool x.redirected]
@[simp] theorem b7n (x:LViolation):(j3 x).cells.length=9:=rfl
def a77 (x:LReport):RV:=.agg [num x.id,num x.born,num x.tries,tx x.body]
@[simp] theorem rvReport_len (x:LReport):(a77 x).cells.length=4:=rfl
def rvQueue (x:LQueue):RV:=.agg [.list 4 (x.items.map a77),.list 1 (x.recent.map tx)]
@[simp] theorem rvQueue_len (x:LQueue):(rvQueue x).cells.length=2:=rfl
def b0a (x:LChannel):RV:=.agg [tx x.group.name,num x.group.age,.list 3 (x.group.targets.map a74),.list 6 (x.peers.map b72),.list 4 (x.queue.items.map a77),.list 1 (x.queue.recent.map tx)]
@[simp] theorem rvChannel_len (x:LChannel):(b0a x).cells.length=6:=rfl
def b5l (x:LEntry):RV:=.agg [num x.kind,num x.id,num x.at_]
@[simp] theorem rvEntry_len (x:LEntry):(b5l x).cells.length=3:=rfl
def b70 (x:LWire):RV:=.agg [num x.at_,num x.status,tx x.group,tx x.url,.list 1 (x.ids.map num),tx x.body,.bool x.lost]
@[simp] theorem rvWire_len (x:LWire):(b70 x).cells.length=7:=rfl
def rvPipe (x:LPipe):RV:=.agg [.list 6 (x.channels.map b0a),tx x.policy.reportTo,.list 1 (x.policy.uris.map tx),.list 2 (x.policy.rules.map a5u),num x.now,num x.next,.list 3 (x.log.map b5l),.list 7 (x.wires.map b70)]
@[simp] theorem rvPipe_len (x:LPipe):(rvPipe x).cells.length=8:=rfl
def rvEvent (x:LEvent):RV:=.agg [num x.kind,num x.draw,num x.status,num x.ticks,tx x.text,tx x.name,tx x.violation.document,tx x.violation.referrer,tx x.violation.blocked,tx x.violation.source,tx x.violation.directive,tx x.violation.sample,num x.violation.line,num x.violation.column,.bool x.violation.redirected,.bool x.lost]
@[simp] theorem rvEvent_len (x:LEvent):(rvEvent x).cells.length=16:=rfl
def b73 (x:LParcel):RV:=.agg [num x.id,num x.age,tx x.body]
@[simp] theorem rvParcel_len (x:LParcel):(b73 x).cells.length=3:=rfl
def rvBox (x:LBox):RV:=.agg [.list 1 (x.ids.map num),.list 1 (x.times.map num),.list 1 (x.bodies.map tx)]
@[simp] theorem rvBox_len (x:LBox):(rvBox x).cells.length=3:=rfl
end Go.PW
end
section
namespace Go.KP
inductive LJson where
 | mk (kind num:Int) (text:Tx) (names:List Tx) (items:List LJson)
def LJson.kind:LJson→Int | .mk k _ _ _ _=>k
def LJson.num:LJson→Int | .mk _ n _ _ _=>n
def LJson.text:LJson→Tx | .mk _ _ t _ _=>t
def LJson.names:LJson→List Tx | .mk _ _ _ ns _=>ns
def LJson.items:LJson→List LJson | .mk _ _ _ _ is=>is
end Go.KP
end
section
namespace Go.KP
def a58 (t:Tx):Tx:=if (o0 t).2 then if K7 (o0 t).1.scheme then a0w (o0 t).1 else (o0 t).1.scheme else []
def a2l (u:LUrl):LUrl:={ u with user:=[],frag:=[],hasF:=false }
def a57 (u:LUrl):Tx:=if K7 u.scheme then M7 (a2l u) else u.scheme
def W1 (t:Tx):Tx:=if (o0 t).2 then a57 (o0 t).1 else []
def a3b (a b:LUrl):Bool:=K7 a.scheme && decide (a.scheme=b.scheme) && decide (a.host=b.host) && decide (a.port=b.port)
def a2x:List Tx:=[[105,110,108,105,110,101],[101,118,97,108],[115,101,108,102]]
def a0m (v:LViolation):Tx:=if v.blocked∈a2x then v.blocked else if v.redirected then a58 v.blocked else W1 v.blocked
def a1p (v:LViolation):Tx:=if (o0 v.source).2 && (o0 v.document).2 && a3b (o0 v.source).1 (o0 v.document).1 then a57 (o0 v.source).1 else a58 v.source
def a36 (v:LViolation):Bool:=decide (v.document.length≤100) && decide (v.referrer.length≤100) && decide (v.blocked.length≤100) && decide (v.source.length≤100) && (R3 v.directive && decide (v.sample.length≤200) && decide (0≤v.line∧v.line≤9999) && decide (0≤v.column∧v.column≤9999))
def jt (t:Tx):LJson:=.mk 4 0 t [] []
def jn (n:Int):LJson:=.mk 3 n [] [] []
def bNames:List Tx:=[[98,108,111,99,107,101,100,85,82,76],[99,111,108,117,109,110,78,117,109,98,101,114],[100,111,99,117,109,101,110,116,85,82,76],[101,102,102,101,99,116,105,118,101,68,105,114,101,99,116,105,118,101],[108,105,110,101,78,117,109,98,101,114],[114,101,102,101,114,114,101,114],[115,97,109,112,108,101],[115,111,117,114,99,101,70,105,108,101]]
def b5e (v:LViolation):List LJson:=[jt (a0m v),jn v.column,jt (W1 v.document),jt v.directive,jn v.line,jt (W1 v.referrer),jt (v.sample.take 40),jt (a1p v)]
def b2s (v:LViolation):LJson:=.mk 6 0 [] bNames (b5e v)
theorem a5f {u:LUrl} (h:u.Small):(a2l u).Small:=⟨h.1,by simp [a2l],h.2.2.1,h.2.2.2.1,h.2.2.2.2.1,by simp [a2l],h.2.2.2.2.2.2⟩
structure VOK (v:LViolation):Prop where
 d:v.document.length≤100
 r:v.referrer.length≤100
 b:v.blocked.length≤100
 s:v.source.length≤100
 n:R3 v.directive=true
 nl:v.directive.length≤24
 m:v.sample.length≤200
 l:0≤v.line∧v.line≤9999
 c:0≤v.column∧v.column≤9999
theorem b7w {v:LViolation} (h:a36 v=true):VOK v:=by
 unfold a36 at h
 simp only [Bool.and_eq_true,decide_eq_true_eq] at h
 obtain ⟨⟨⟨⟨h1,h2⟩,h3⟩,h4⟩,⟨⟨h5,h6⟩,h7⟩,h8⟩:=h
 have hn:=h5
 unfold R3 at hn
 simp only [Bool.and_eq_true,decide_eq_true_eq] at hn
 exact ⟨h1,h2,h3,h4,h5,by omega,h6,h7,h8⟩
theorem a3c:∀ (t:Tx) (last:Bool),C8 last t=true→58∉t
 | [],_,_=>by simp
 | c :: r,last,h=>by
  unfold C8 at h
  split at h
  · cases h
  · rename_i hc
    have hr:=a3c r _ h
    intro hm
    rcases List.mem_cons.1 hm with rfl | hm
    · apply hc
      have e1:m0 58=false:=by decide
      have e2:o5 58=false:=by decide
      rw [e1,e2];simp
    · exact hr hm
theorem b8o {a b:Nat} (h:Y2 a=Y2 b):a=b:=by rw [← a30 a,h,a30]
theorem b34 {a b:Int} (ha:0≤a) (hb:0≤b) (h:Q0 a=Q0 b):a=b:=by
 unfold Q0 at h
 by_cases h1:0 < a
 · by_cases h2:0 < b
   · rw [if_pos h1,if_pos h2] at h
     have:=b8o (List.cons.inj h).2
     omega
   · rw [if_pos h1,if_neg h2] at h;cases h
 · by_cases h2:0 < b
   · rw [if_neg h1,if_pos h2] at h;cases h
   · omega
theorem a6p (a:Int):Q0 a=[]∨∃ r,Q0 a=58 :: r:=by
 unfold Q0;split
 · exact .inr ⟨_,rfl⟩
 · exact .inl rfl
theorem a8k {s:Tx} (h:K7 s=true):58∉s:=by
 unfold K7 at h
 simp only [Bool.or_eq_true,beq_iff_eq] at h
 rcases h with rfl | rfl<;>decide
theorem a6v {u:LUrl} (h:n0 u=true) (hw:K7 u.scheme=true):V3 u.host=true:=by
 unfold n0 at h
 rw [if_pos hw] at h
 simp only [Bool.and_eq_true] at h
 exact h.2.1.1.1.1.2
theorem b6v {a b:LUrl} (ha:n0 a=true) (hb:n0 b=true) (wa:K7 a.scheme=true) (wb:K7 b.scheme=true) (h:a0w a=a0w b):a.scheme=b.scheme∧a.host=b.host∧a.port=b.port:=by
 have e:∀ u:LUrl,a0w u=u.scheme++58 :: (47 :: 47 :: (u.host++Q0 u.port)):=fun u=>by simp [a0w]
 rw [e,e] at h
 obtain ⟨h1,h2⟩:=cutU (a8k wa) (a8k wb) (.inr ⟨_,rfl⟩) (.inr ⟨_,rfl⟩) h
 simp only [List.cons.injEq,true_and] at h2
 obtain ⟨h3,h4⟩:=cutU (a3c _ _ (a6v ha wa)) (a3c _ _ (a6v hb wb)) (a6p _) (a6p _) h2
 exact ⟨h1,h3,b34 (a6u ha) (a6u hb) h4⟩
theorem b2m {a b:LUrl} (ha:n0 a=true) (hb:n0 b=true):a3b a b=(K7 a.scheme && K7 b.scheme && decide (M7 ⟨a.scheme,[],a.host,a.port,[],[],[],false,false⟩=M7 ⟨b.scheme,[],b.host,b.port,[],[],[],false,false⟩)):=by
 unfold a3b
 cases wa:K7 a.scheme with
 | false=>simp
 | true=>
  cases wb:K7 b.scheme with
  | false=>
   have:¬ a.scheme=b.scheme:=fun h=>by rw [h,wb] at wa;cases wa
   simp [this]
  | true=>
   have e:∀ u:LUrl,K7 u.scheme=true→M7 ⟨u.scheme,[],u.host,u.port,[],[],[],false,false⟩=a0w u:=fun u hw=>by
    unfold M7 a0w;simp [hw]
   rw [e a wa,e b wb]
   by_cases h:a0w a=a0w b
   · obtain ⟨h1,h2,h3⟩:=b6v ha hb wa wb h
     simp [h,h1,h2,h3]
   · have:¬ (a.scheme=b.scheme∧a.host=b.host∧a.port=b.port):=fun ⟨h1,h2,h3⟩=>h (by unfold a0w;rw [h1,h2,h3])
     rw [decide_eq_false h]
     simp only [Bool.true_and,Bool.and_false]
     rw [Bool.eq_false_iff]
     intro hh
     simp only [Bool.and_eq_true,decide_eq_true_eq] at hh
     exact this ⟨hh.1.1,hh.1.2,hh.2⟩
end Go.KP
end
section
namespace Go.PW
open Go.KP
mutual
def S2:LJson→RV
 | .mk k n t ns is=>.agg [num k,num n,tx t,.list 1 (ns.map tx),.list 5 (a7g is)]
def a7g:List LJson→List RV
 | []=>[]
 | x :: xs=>S2 x :: a7g xs
end
theorem b17 (l:List LJson):a7g l=l.map S2:=by
 induction l with
 | nil=>rfl
 | cons x xs ih=>simp [a7g,ih]
theorem o6 (k n:Int) (t:Tx) (ns:List Tx) (is:List LJson):S2 (.mk k n t ns is)=.agg [num k,num n,tx t,.list 1 (ns.map tx),.list 5 (is.map S2)]:=by rw [S2,b17]
end Go.PW
end
section
namespace Go.KP
end Go.KP
end
