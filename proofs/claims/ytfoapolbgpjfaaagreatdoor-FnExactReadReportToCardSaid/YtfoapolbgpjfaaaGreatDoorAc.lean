/- Ac: merged out of KPa, KPb, KPc, KPd, KPe, KPf, KPg, KPh, KPi, KPj, KPk, KPl, KPm, KPn, KPo, KQa, KRa, KLa, KRb, KRc, KPp, KRd, KPx, KPy, KPz, KPaa, KPab, KPae. -/
import Derived.Test.YtfoapolbgpjfaaaGreatDoorPWv
set_option linter.unusedSectionVars false
set_option linter.unusedSimpArgs false
set_option linter.unusedVariables false
section
namespace Go.KP
abbrev Tx:=List UInt8
def V7 (c:UInt8):Bool:=decide (97≤c.toNat∧c.toNat≤122)
def P8 (c:UInt8):Bool:=decide (48≤c.toNat∧c.toNat≤57)
def b6q (c:UInt8):UInt8:=if 65≤c.toNat∧c.toNat≤90 then c+32 else c
def R9 (t:Tx):Tx:=t.map b6q
def P4 (t:Tx) (c:UInt8):Nat:=t.findIdx (· == c)
def X3 (t wo:Tx):Bool:=t.all fun c=>decide (33≤c.toNat∧c.toNat≤126) && !decide (c∈wo)
def a48:Tx:=[104,116,116,112]
def a64:Tx:=[104,116,116,112,115]
def a0b (s:Tx):Bool:=s == a48 || s == a64
def W3 (c:UInt8):Bool:=V7 c || P8 c || decide (c.toNat=45∨c.toNat=43∨c.toNat=46)
def a2r (t:Tx):Bool:=(t.take 1).all V7 && t.all W3
def V9 (t:Tx):Bool:=decide (1≤t.length∧t.length≤12) && a2r t
def V4:Bool→Tx→Bool
 | last,[]=>!last
 | last,c :: r=>if !(V7 c || P8 c) && (last || !decide (c.toNat=45∨c.toNat=46)) then false else V4 (!(V7 c || P8 c)) r
def a00 (t:Tx):Bool:=V4 true t
def Y5 (s:Tx):Int:=if s=a48 then 80 else 443
def a1p (n:Nat):Tx:=if h:n < 10 then [UInt8.ofNat (48+n)] else a1p (n / 10)++[UInt8.ofNat (48+n % 10)]
termination_by n
decreasing_by omega
theorem b6u (t:Tx) (c:UInt8) (i:Nat) (hi:i≤t.length) (h:∀ k,k < i→t.getD k 0≠c) (h':i=t.length∨t.getD i 0=c):P4 t c=i:=by
 unfold P4
 by_cases hl:i < t.length
 · rw [List.findIdx_eq hl]
   refine ⟨?_,fun j hj=>?_⟩
   · rcases h' with h' | h'
     · omega
     · simpa [List.getD_eq_getElem?_getD,List.getElem?_eq_getElem hl] using h'
   · have:=h j hj
     have hjl:j < t.length:=by omega
     simpa [List.getD_eq_getElem?_getD,List.getElem?_eq_getElem hjl] using this
 · have e:i=t.length:=by omega
   subst e
   rw [List.findIdx_eq_length]
   intro x hx
   obtain ⟨j,hj,rfl⟩:=List.getElem_of_mem hx
   have:=h j hj
   simpa [List.getD_eq_getElem?_getD,List.getElem?_eq_getElem hj] using this
theorem Y6 (t:Tx) (c:UInt8):P4 t c≤t.length:=List.findIdx_le_length
theorem V0 {t:Tx} {c:UInt8}:P4 t c < t.length↔c∈t:=by
 unfold P4
 rw [List.findIdx_lt_length]
 constructor
 · rintro ⟨x,hx,h⟩;have:x=c:=by simpa using h
   exact this ▸ hx
 · intro h;exact ⟨c,h,by simp⟩
theorem a0w {α:Type} (t:List α) (i:Nat) (d:α) (h:i < t.length):t.getD i d=t[i]:=by simp [List.getD_eq_getElem?_getD,List.getElem?_eq_getElem h]
theorem b3j {α:Type} (t:List α) (i:Nat) (d:α) (h:i < t.length):t.take (i+1)=t.take i++[t.getD i d]:=by
 rw [List.take_add_one,List.getElem?_eq_getElem h,a0w t i d h];rfl
theorem b37 {α:Type} (t:List α) (i:Nat) (d:α) (h:i < t.length):t.drop i=t.getD i d :: t.drop (i+1):=by
 rw [List.drop_eq_getElem_cons h,a0w t i d h]
theorem a0v {n:Nat} (h:n < 10):a1p n=[UInt8.ofNat (48+n)]:=by rw [a1p];simp [h]
theorem a22 {n:Nat} (h:¬ n < 10):a1p n=a1p (n / 10)++[UInt8.ofNat (48+n % 10)]:=by rw [a1p];simp [h]
theorem c4b (n:Nat):(a1p n).length≤n+1:=by
 induction n using Nat.strongRecOn with
 | ind n ih=>
  by_cases h:n < 10
  · rw [a0v h];simp
  · rw [a22 h]
    have:=ih (n / 10) (by omega)
    simp;omega
theorem a3d:∀ (k n:Nat),n < 10 ^ (k+1)→(a1p n).length≤k+1
 | 0,n,h=>by rw [a0v (by simpa using h)];simp
 | k+1,n,h=>by
  by_cases hn:n < 10
  · rw [a0v hn];simp
  · rw [a22 hn]
    have:=a3d k (n / 10) (by rw [Nat.div_lt_iff_lt_mul (by omega)];rw [Nat.pow_succ] at h;exact h)
    simp;omega
def a4h (n:Int):Tx:=if n < 0 then 45 :: a1p (-n).toNat else a1p n.toNat
def V3 (t:Tx):Nat:=t.foldl (fun n c=>n*10+(c.toNat - 48)) 0
def a13 (neg:Bool) (t:Tx):Bool:=decide (t.length=0∨18 < t.length) || (decide ((t.getD 0 0).toNat=48) && (decide (1 < t.length) || neg))
def a0z (neg:Bool) (t:Tx):Option Int:=if a13 neg t then none else if t.all P8 then some (if neg then - (V3 t:Int) else (V3 t:Int)) else none
def U4 (t:Tx):Option Int:=match t with
 | []=>none
 | c :: r=>if c=45 then a0z true r else a0z false (c :: r)
theorem a6c (t:Tx) (c:UInt8):V3 (t++[c])=V3 t*10+(c.toNat - 48):=by simp [V3]
theorem b0j (t:Tx) (h:t.all P8=true):V3 t < 10 ^ t.length:=by
 have key:∀ (k:Nat) (t:Tx),t.length=k→t.all P8=true→V3 t < 10 ^ t.length:=by
  intro k
  induction k with
  | zero=>intro t ht _;have:t=[]:=List.eq_nil_of_length_eq_zero ht;subst this;decide
  | succ k ih=>
   intro t ht ha
   obtain ⟨r,c,rfl⟩:∃ r c,t=r++[c]:=⟨t.dropLast,t.getLast (by intro e;subst e;simp at ht),(List.dropLast_concat_getLast _).symm⟩
   simp only [List.all_append,Bool.and_eq_true] at ha
   have h1:=ih r (by simpa using ht) ha.1
   have h2:P8 c=true:=by simpa using ha.2
   simp [P8] at h2
   rw [a6c]
   simp only [List.length_append,List.length_singleton,Nat.pow_succ]
   omega
 exact key t.length t rfl h
theorem a06 {α:Type} (t:List α) (p:α→Bool) (i:Nat) (h:i < t.length):(t.take (i+1)).all p=((t.take i).all p && p t[i]):=by
 rw [List.take_add_one,List.getElem?_eq_getElem h,List.all_append];simp
theorem a9j (t:Tx) (i:Nat) (h:i < t.length):a2r (t.take (i+1))=(a2r (t.take i) && (if i=0 then V7 t[i] else W3 t[i])):=by
 unfold a2r
 rw [a06 t _ i h]
 by_cases hi:i=0
 · subst hi
   have:(t.take (0+1)).take 1=[t[0]]:=by
    cases t with
    | nil=>simp at h
    | cons c r=>simp
   rw [this]
   simp [W3]
   cases V7 t[0]<;>simp
 · have e1:(t.take (i+1)).take 1=t.take 1:=by rw [List.take_take,Nat.min_eq_left (by omega)]
   have e2:(t.take i).take 1=t.take 1:=by rw [List.take_take,Nat.min_eq_left (by omega)]
   rw [e1,e2]
   simp [hi,Bool.and_assoc]
theorem a7q (t:Tx) (i:Nat) (h:i < t.length) (hb:(if i=0 then V7 t[i] else W3 t[i])=false):a2r t=false:=by
 unfold a2r
 by_cases hi:i=0
 · subst hi
   rw [if_pos rfl] at hb
   cases t with
   | nil=>simp at h
   | cons c r=>simp at hb;simp [hb]
 · rw [if_neg hi] at hb
   have:t.all W3=false:=by rw [List.all_eq_false];exact ⟨t[i],List.getElem_mem h,by simp [hb]⟩
   simp [this]
structure LUrl where
 scheme:Tx
 user:Tx
 host:Tx
 port:Int
 path:Tx
 query:Tx
 frag:Tx
 hasQ:Bool
 hasF:Bool
def LUrl.Small (u:LUrl):Prop:=u.scheme.length < 1099511627776∧u.user.length < 1099511627776∧u.host.length < 1099511627776∧u.path.length < 1099511627776∧u.query.length < 1099511627776∧u.frag.length < 1099511627776∧u.port≤9223372036854775807
def a1b (p:Int):Tx:=if 0 < p then 58 :: a1p p.toNat else []
theorem b8j (p:Int) (h:p≤9223372036854775807):(a1b p).length≤20:=by
 unfold a1b
 split
 · have:=a3d 18 p.toNat (by omega)
   simp;omega
 · simp
def c0t (u:LUrl):Tx:=u.scheme++[58,47,47]++u.host++a1b u.port
def X6 (u:LUrl):Tx:=
 if a0b u.scheme then
  u.scheme++[58,47,47]++(if u.user=[] then [] else u.user++[64])++(u.host++a1b u.port++u.path)++(if u.hasQ then 63 :: u.query else [])++(if u.hasF then 35 :: u.frag else [])
 else u.scheme++[58]++u.path
def T3 (u:LUrl):Bool:=
 V9 u.scheme && (u.hasQ || decide (u.query=[])) && (u.hasF || decide (u.frag=[])) && X3 u.path [63,35] && X3 u.query [35] && X3 u.frag [] && decide ((X6 u).length≤100) &&
 (if a0b u.scheme then X3 u.user [47,63,35,64] && a00 u.host && decide (0≤u.port∧u.port≤65535) && decide (u.port≠Y5 u.scheme) && decide (0 < u.path.length) && decide ((u.path.getD 0 0).toNat=47)
  else decide (u.user=[]) && decide (u.host=[]) && decide (u.port=0) && !u.hasQ && !u.hasF)
end Go.KP
end
section
namespace Go.KP
def F6 (t:Tx) (c:UInt8):Tx:=t.take (P4 t c)
def O8 (t:Tx) (c:UInt8):Tx:=t.drop (P4 t c+1)
theorem a0k {t:Tx} {c:UInt8} (h:c∉t):F6 t c=t:=by
 unfold F6
 have h1:=Y6 t c
 have h2:¬ P4 t c < t.length:=fun h'=>h (V0.1 h')
 rw [show P4 t c=t.length by omega,List.take_length]
theorem a7a {t:Tx} {c:UInt8} (h:c∉t):O8 t c=[]:=by
 unfold O8
 have h2:¬ P4 t c < t.length:=fun h'=>h (V0.1 h')
 exact List.drop_eq_nil_of_le (by omega)
theorem S2 (t:Tx) (c:UInt8):(F6 t c).length≤t.length:=by unfold F6;simp;omega
theorem X4 (t:Tx) (c:UInt8):(O8 t c).length≤t.length:=by unfold O8;simp
def LUrl.zero:LUrl:=⟨[],[],[],0,[],[],[],false,false⟩
def a03 (sc r:Tx):Option Int:=
 if 58∈r then
  match U4 (O8 r 58) with
  | some n=>if 1≤n∧n≤65535 then some (if n=Y5 sc then 0 else n) else none
  | none=>none
 else some 0
def a4g (sc r0:Tx):LUrl×Bool:=
 let r1:=F6 r0 35
 let r2:=F6 r1 63
 let r3:=F6 r2 47
 let r4:=if 64∈r3 then O8 r3 64 else r3
 match a03 sc r4 with
 | none=>(LUrl.zero,false)
 | some p=>
  let u:LUrl:=⟨sc,if 64∈r3 then F6 r3 64 else [],R9 (F6 r4 58),p,if 47∈r2 then r2.drop (P4 r2 47) else [47],O8 r1 63,O8 r0 35,decide (63∈r1),decide (35∈r0)⟩
  (u,T3 u)
def R5 (t:Tx):LUrl×Bool:=
 if 58∈t then
  let sc:=R9 (F6 t 58)
  let rest:=O8 t 58
  if a0b sc then
   if rest.take 2=[47,47] then a4g sc (rest.drop 2) else (LUrl.zero,false)
  else
   let u:LUrl:=⟨sc,[],[],0,F6 (F6 rest 35) 63,[],[],false,false⟩
   (u,T3 u)
 else (LUrl.zero,false)
structure LTarget where
 url:Tx
 prio:Int
 weight:Int
 deriving DecidableEq
structure LPeer where
 target:LTarget
 fails:Int
 retry:Int
 gone:Bool
 deriving DecidableEq
end Go.KP
end
section
namespace Go.KP
def U0 (t:Tx):Bool:=t.all fun c=>decide (33≤c.toNat∧c.toNat≤126)
def T9 (t wo:Tx):Bool:=t.any fun c=>decide (c∈wo)
theorem c36 (t wo:Tx):X3 t wo=(U0 t && !T9 t wo):=by
 unfold X3 U0 T9
 induction t with
 | nil=>rfl
 | cons c r ih=>
  simp only [List.all_cons,List.any_cons,ih]
  cases decide (33≤c.toNat∧c.toNat≤126)<;>cases decide (c∈wo)<;>simp
theorem c1x (t:Tx):X3 t []=U0 t:=by simp [X3,U0]
theorem a6v (a b:Tx):U0 (a++b)=(U0 a && U0 b):=by simp [U0]
theorem a5a:∀ (t:Tx) (last:Bool),V4 last t=true→U0 t=true
 | [],_,_=>rfl
 | c :: r,last,h=>by
  simp only [V4] at h
  split at h
  · cases h
  · rename_i hc
    have ih:=a5a r _ h
    have hh:U0 (c :: r)=(decide (33≤c.toNat∧c.toNat≤126) && U0 r):=rfl
    rw [hh,ih]
    simp [V7,P8] at hc ⊢
    omega
theorem b6t {t:Tx} (h:a00 t=true):U0 t=true:=a5a t _ h
def a1s (p:Int):Tx:=if p=0 then [] else 58 :: a4h p
def a1r (u:LUrl):Tx:=
 if a0b u.scheme then
  u.scheme++[58,47,47]++(if u.user=[] then [] else u.user++[64])++u.host++a1s u.port++u.path++(if u.hasQ then 63 :: u.query else [])++(if u.hasF then 35 :: u.frag else [])
 else u.scheme++[58]++u.path
theorem b64 {u:LUrl} (h:0≤u.port):a1r u=X6 u:=by
 unfold a1r X6
 split
 · have:a1s u.port=a1b u.port:=by
    unfold a1s a1b a4h
    by_cases h0:u.port=0
    · simp [h0]
    · have g1:0 < u.port:=by omega
      have g2:¬ u.port < 0:=by omega
      simp only [h0,g1,g2,if_true,if_false]
   rw [this];simp
 · rfl
def a83 (u:LUrl):Bool:=
 V9 u.scheme && decide (u.user.length+u.host.length+u.path.length+u.query.length+u.frag.length≤100) && decide ((a1r u).length≤100) && U0 (u.user++u.host++u.path++u.query++u.frag) && !T9 u.path [63,35] &&
 (if a0b u.scheme then !T9 u.user [47,63,35,64] && a00 u.host && decide (0≤u.port∧u.port≤65535) && decide (u.port≠Y5 u.scheme) && decide (0 < u.path.length) && decide ((u.path.getD 0 0).toNat=47) && !T9 u.query [35] && (u.hasQ || decide (u.query=[])) && (u.hasF || decide (u.frag=[]))
  else decide (u.user=[]) && decide (u.host=[]) && decide (u.port=0) && decide (u.query=[]) && decide (u.frag=[]) && !u.hasQ && !u.hasF)
theorem c19 (u:LUrl):a83 u=T3 u:=by
 by_cases hp:0≤u.port
 · unfold a83 T3
   rw [b64 hp]
   simp only [c36,c1x,a6v]
   by_cases hw:a0b u.scheme=true
   · rw [if_pos hw,if_pos hw]
     rw [Bool.eq_iff_iff]
     have hl:(X6 u).length=u.scheme.length+3+(if u.user=[] then 0 else u.user.length+1)+(u.host.length+(a1b u.port).length+u.path.length)+(if u.hasQ then u.query.length+1 else 0)+(if u.hasF then u.frag.length+1 else 0):=by
      unfold X6
      rw [if_pos hw]
      simp only [List.length_append]
      congr 1
      · congr 1
        · congr 1
          congr 1
          split<;>simp
        · split<;>simp
      · split<;>simp
     constructor
     · intro h
       simp only [Bool.and_eq_true,Bool.or_eq_true,decide_eq_true_eq,Bool.not_eq_true'] at h ⊢
       obtain ⟨⟨⟨⟨⟨h1,h2⟩,h3⟩,h4⟩,h5⟩,h6⟩:=h
       obtain ⟨⟨⟨⟨⟨⟨⟨⟨a1,a2⟩,a3⟩,a4⟩,a5⟩,a6⟩,a7⟩,a8⟩,a9⟩:=h6
       obtain ⟨⟨⟨⟨b1,b2⟩,b3⟩,b4⟩,b5⟩:=h4
       exact ⟨⟨⟨⟨⟨⟨⟨h1,a8⟩,a9⟩,b3,h5⟩,b4,a7⟩,b5,by simp [T9]⟩,h3⟩,⟨⟨⟨⟨⟨b1,a1⟩,a2⟩,a3⟩,a4⟩,a5⟩,a6⟩
     · intro h
       simp only [Bool.and_eq_true,Bool.or_eq_true,decide_eq_true_eq,Bool.not_eq_true'] at h ⊢
       obtain ⟨⟨⟨⟨⟨⟨⟨c1,c2⟩,c3⟩,c4⟩,c5⟩,c6⟩,c7⟩,c8⟩:=h
       obtain ⟨⟨⟨⟨⟨d1,d2⟩,d3⟩,d4⟩,d5⟩,d6⟩:=c8
       have e:=b6t d2
       refine ⟨⟨⟨⟨⟨c1,?_⟩,c7⟩,?_⟩,c4.2⟩,⟨⟨⟨⟨⟨⟨⟨⟨d1.2,d2⟩,d3⟩,d4⟩,d5⟩,d6⟩,c5.2⟩,c2⟩,c3⟩⟩
       · have q1:u.query.length≤(if u.hasQ then u.query.length+1 else 0):=by
          rcases c2 with h | h
          · rw [h];simp
          · rw [h];simp
         have q2:u.frag.length≤(if u.hasF then u.frag.length+1 else 0):=by
          rcases c3 with h | h
          · rw [h];simp
          · rw [h];simp
         have q3:u.user.length≤(if u.user=[] then 0 else u.user.length+1):=by
          split
          · rename_i h;rw [h];simp
          · omega
         omega
       · exact ⟨⟨⟨⟨d1.1,e⟩,c4.1⟩,c5.1⟩,c6.1⟩
   · rw [if_neg hw,if_neg hw]
     rw [Bool.eq_iff_iff]
     have hl:(X6 u).length=u.scheme.length+1+u.path.length:=by
      unfold X6
      rw [if_neg hw]
      simp;omega
     constructor
     · intro h
       simp only [Bool.and_eq_true,Bool.or_eq_true,decide_eq_true_eq,Bool.not_eq_true'] at h ⊢
       obtain ⟨⟨⟨⟨⟨h1,h2⟩,h3⟩,h4⟩,h5⟩,⟨⟨⟨⟨⟨⟨a1,a2⟩,a3⟩,a4⟩,a5⟩,a6⟩,a7⟩⟩:=h
       obtain ⟨⟨⟨⟨b1,b2⟩,b3⟩,b4⟩,b5⟩:=h4
       have e:T9 u.frag []=false:=by simp [T9]
       have e2:T9 u.query [35]=false:=by rw [a4];rfl
       refine ⟨⟨⟨⟨⟨⟨⟨h1,.inr a4⟩,.inr a5⟩,b3,h5⟩,b4,e2⟩,b5,by simp [T9]⟩,h3⟩,⟨⟨⟨⟨a1,a2⟩,a3⟩,a6⟩,a7⟩⟩
     · intro h
       simp only [Bool.and_eq_true,Bool.or_eq_true,decide_eq_true_eq,Bool.not_eq_true'] at h ⊢
       obtain ⟨⟨⟨⟨⟨⟨⟨c1,c2⟩,c3⟩,c4⟩,c5⟩,c6⟩,c7⟩,⟨⟨⟨⟨d1,d2⟩,d3⟩,d4⟩,d5⟩⟩:=h
       have q:u.query=[]:=by rcases c2 with h | h;(rw [d4] at h;cases h);exact h
       have f:u.frag=[]:=by rcases c3 with h | h;(rw [d5] at h;cases h);exact h
       refine ⟨⟨⟨⟨⟨c1,?_⟩,c7⟩,?_⟩,c4.2⟩,⟨⟨⟨⟨⟨⟨d1,d2⟩,d3⟩,q⟩,f⟩,d4⟩,d5⟩⟩
       · simp [d1,d2,q,f];omega
       · refine ⟨⟨⟨⟨?_,?_⟩,c4.1⟩,c5.1⟩,c6.1⟩<;>simp [d1,d2,U0]
 · have e1:a83 u=false:=by
    unfold a83
    have h1:decide (0≤u.port∧u.port≤65535)=false:=by simp;omega
    have h2:decide (u.port=0)=false:=by simp;omega
    simp [h1,h2]
   have e2:T3 u=false:=by
    unfold T3
    have h1:decide (0≤u.port∧u.port≤65535)=false:=by simp;omega
    have h2:decide (u.port=0)=false:=by simp;omega
    simp [h1,h2]
   rw [e1,e2]
end Go.KP
end
section
namespace Go.KP
theorem a8w {t:Tx} (h:(R5 t).2=true):T3 (R5 t).1=true:=by
 unfold R5 a4g at h ⊢
 split at h
 · rename_i h1
   rw [if_pos h1]
   dsimp only at h ⊢
   split at h
   · rename_i h2
     rw [if_pos h2]
     split at h
     · rename_i h3
       rw [if_pos h3]
       split at h
       · cases h
       · exact h
     · cases h
   · rename_i h2
     rw [if_neg h2]
     exact h
 · cases h
theorem b6m {u:LUrl} (h:T3 u=true):0≤u.port:=by
 unfold T3 at h
 simp only [Bool.and_eq_true] at h
 obtain ⟨_,h⟩:=h
 split at h
 · simp only [Bool.and_eq_true,decide_eq_true_eq] at h
   exact h.1.1.1.2.1
 · simp only [Bool.and_eq_true,decide_eq_true_eq] at h
   omega
theorem b1p {u:LUrl} (h:T3 u=true):(X6 u).length≤100:=by
 unfold T3 at h
 simp only [Bool.and_eq_true,decide_eq_true_eq] at h
 exact h.1.2
theorem b1s:∀ (n:Nat),(a1p n).all P8=true:=by
 intro n
 induction n using Nat.strongRecOn with
 | ind n ih=>
  by_cases h:n < 10
  · rw [a0v h]
    simp [P8]
    omega
  · rw [a22 h,List.all_append,ih (n / 10) (by omega)]
    simp [P8]
    omega
def a3h (t:Tx):Option Tx:=
 if t.length≤65536 then
  if (R5 t).2 && a0b (R5 t).1.scheme then some (a1r { (R5 t).1 with frag:=[],hasF:=false }) else none
 else none
end Go.KP
end
section
namespace Go.KP
theorem b4f (k:Nat) (h:k < 10):(UInt8.ofNat (48+k)).toNat=48+k:=by
 rw [UInt8.toNat_ofNat'];omega
theorem b3q (n:Nat):V3 (a1p n)=n:=by
 induction n using Nat.strongRecOn with
 | ind n ih=>
  by_cases h:n < 10
  · rw [a0v h]
    have:=b4f n h
    simp only [V3,List.foldl_cons,List.foldl_nil,this];omega
  · rw [a22 h,a6c,ih (n / 10) (by omega),b4f _ (by omega)]
    omega
theorem b43 (n:Nat):a1p n≠[]:=by
 by_cases h:n < 10
 · rw [a0v h];simp
 · rw [a22 h];simp
theorem c10 (n:Nat) (h0:n≠0):((a1p n).getD 0 0).toNat≠48:=by
 induction n using Nat.strongRecOn with
 | ind n ih=>
  by_cases h:n < 10
  · rw [a0v h]
    have:=b4f n h
    simp only [List.getD_cons_zero,this];omega
  · rw [a22 h]
    have h1:=ih (n / 10) (by omega) (by omega)
    cases hl:a1p (n / 10) with
    | nil=>exact absurd hl (b43 _)
    | cons c r=>rw [hl] at h1;simpa using h1
theorem a9w {c:UInt8} (h:P8 c=true):UInt8.ofNat (48+(c.toNat - 48))=c:=by
 simp only [P8,decide_eq_true_eq] at h
 apply UInt8.toNat_inj.1
 rw [b4f _ (by omega)];omega
theorem c1z:∀ (k:Nat) (t:Tx),t.length=k→t≠[]→t.all P8=true→((t.getD 0 0).toNat=48→t.length=1)→a1p (V3 t)=t:=by
 intro k
 induction k with
 | zero=>intro t ht h;exact absurd (List.eq_nil_of_length_eq_zero ht) h
 | succ k ih=>
  intro t ht hne ha hz
  obtain ⟨r,c,rfl⟩:∃ r c,t=r++[c]:=⟨t.dropLast,t.getLast hne,(List.dropLast_concat_getLast _).symm⟩
  simp only [List.all_append,Bool.and_eq_true] at ha
  have hc:P8 c=true:=by simpa using ha.2
  have hc':=hc
  simp only [P8,decide_eq_true_eq] at hc'
  rw [a6c]
  cases r with
  | nil=>
   rw [show V3 []*10+(c.toNat - 48)=c.toNat - 48 by simp [V3]]
   rw [a0v (by omega),a9w hc];rfl
  | cons d r=>
   have hd:d.toNat≠48:=fun e=>by
    have:=hz (by simpa using e)
    simp at this
   have hi:=ih (d :: r) (by simpa using ht) (by simp) ha.1 (fun e=>absurd (by simpa using e) hd)
   have hpos:V3 (d :: r)≠0:=fun e=>by
    rw [e,a0v (by omega)] at hi
    have h2:UInt8.ofNat 48=d:=by simpa using (List.cons.inj hi).1
    exact hd (by rw [← h2];rfl)
   rw [a22 (by omega)]
   have e1:(V3 (d :: r)*10+(c.toNat - 48)) / 10=V3 (d :: r):=by omega
   have e2:(V3 (d :: r)*10+(c.toNat - 48)) % 10=c.toNat - 48:=by omega
   rw [e1,e2,hi,a9w hc]
def X5 (t:Tx):Nat:=match t with
 | []=>0
 | c :: r=>if c=45 then r.length else (c :: r).length
theorem a9q (neg:Bool) (n:Nat) (h18:(a1p n).length≤18) (hn:neg=true→n≠0):a13 neg (a1p n)=false:=by
 unfold a13
 have h1:(a1p n).length≠0:=fun e=>b43 n (List.eq_nil_of_length_eq_zero e)
 by_cases h0:n=0
 · subst h0
   cases neg with
   | true=>exact absurd rfl (hn rfl)
   | false=>rw [a0v (by omega)];simp
 · have h2:=c10 n h0
   have e1:decide ((a1p n).length=0∨18 < (a1p n).length)=false:=by simp only [decide_eq_false_iff_not];omega
   have e2:decide (((a1p n).getD 0 0).toNat=48)=false:=by simp only [decide_eq_false_iff_not];exact h2
   rw [e1,e2];rfl
theorem b41 (n:Int) (h:X5 (a4h n)≤18):U4 (a4h n)=some n:=by
 unfold a4h at h ⊢
 by_cases h0:n < 0
 · rw [if_pos h0] at h ⊢
   have h':(a1p (-n).toNat).length≤18:=by simpa [X5] using h
   simp only [U4,if_true,a0z]
   rw [a9q true _ h' (fun _=>by omega),if_neg (by simp),if_pos (b1s _),b3q]
   simp;omega
 · rw [if_neg h0] at h ⊢
   cases hl:a1p n.toNat with
   | nil=>exact absurd hl (b43 _)
   | cons c r=>
    have hd:=b1s n.toNat
    rw [hl] at hd h
    have hc:c≠45:=fun e=>by subst e;simp [P8] at hd
    have h':(a1p n.toNat).length≤18:=by rw [hl];simpa [X5,hc] using h
    simp only [U4,hc,if_false]
    rw [← hl]
    simp only [a0z]
    rw [a9q false _ h' (fun e=>by cases e),if_neg (by simp),if_pos (b1s _),b3q]
    simp;omega
theorem a4x {t:Tx} {n:Int} (h:U4 t=some n):a4h n=t∧X5 t≤18 ∧
 ∃ u:Tx,u≠[]∧u.all P8=true∧u.length≤18∧((t=45 :: u∧n=-(V3 u:Int))∨(t=u∧n=V3 u)):=by
 have key:∀ (neg:Bool) (u:Tx),a0z neg u=some n→u≠[]∧u.length≤18∧u.all P8=true∧a1p (V3 u)=u∧(neg=true→V3 u≠0)∧n=(if neg then - (V3 u:Int) else (V3 u:Int)):=by
  intro neg u hu
  unfold a0z at hu
  split at hu
  · cases hu
  · rename_i hb
    split at hu
    · rename_i ha
      have hn:=(Option.some.inj hu).symm
      have hb':a13 neg u=false:=by simpa using hb
      unfold a13 at hb'
      rw [Bool.or_eq_false_iff] at hb'
      obtain ⟨q1,q2⟩:=hb'
      rw [decide_eq_false_iff_not] at q1
      have hne:u≠[]:=fun e=>q1 (by rw [e];simp)
      have hz:(u.getD 0 0).toNat=48→u.length=1∧neg=false:=fun e=>by
       rw [Bool.and_eq_false_iff] at q2
       rcases q2 with q2 | q2
       · simp only [decide_eq_false_iff_not] at q2;exact absurd e q2
       · rw [Bool.or_eq_false_iff,decide_eq_false_iff_not] at q2
         have:u.length≠0:=fun e=>hne (List.eq_nil_of_length_eq_zero e)
         exact ⟨by omega,q2.2⟩
      have hl:=c1z u.length u rfl hne ha (fun e=>(hz e).1)
      refine ⟨hne,by omega,ha,hl,fun hneg h0=>?_,hn⟩
      rw [h0,a0v (by omega)] at hl
      have:=(hz (by rw [← hl];rfl)).2
      rw [hneg] at this;cases this
    · cases hu
 unfold U4 at h
 split at h
 · cases h
 · rename_i c r
   split at h
   · rename_i hc
     subst hc
     obtain ⟨h1,h2,h3,h4,h5,h6⟩:=key true r h
     simp only [if_true] at h6
     have h5':=h5 rfl
     refine ⟨?_,by simpa [X5] using h2,r,h1,h3,h2,.inl ⟨rfl,h6⟩⟩
     unfold a4h
     rw [if_pos (by omega),h6]
     rw [show (- -(V3 r:Int)).toNat=V3 r by omega,h4]
   · rename_i hc
     obtain ⟨h1,h2,h3,h4,h5,h6⟩:=key false (c :: r) h
     have h6:n=(V3 (c :: r):Int):=h6
     refine ⟨?_,by simpa [X5,hc] using h2,c :: r,h1,h3,h2,.inr ⟨rfl,h6⟩⟩
     unfold a4h
     rw [if_neg (by omega),h6]
     rw [show ((V3 (c :: r):Int)).toNat=V3 (c :: r) by omega,h4]
end Go.KP
end
section
namespace Go.KP
theorem b4x {t:Tx} (ht:t.length < 1099511627776):(R5 t).1.Small:=by
 have hz:LUrl.zero.Small:=by simp [LUrl.Small,LUrl.zero]
 have hA:∀ (t:Tx) c,(F6 t c).length≤t.length:=S2
 have hB:∀ (t:Tx) c,(O8 t c).length≤t.length:=X4
 unfold R5
 split
 · have h1:(R9 (F6 t 58)).length≤t.length:=by have:=hA t 58;simpa [R9] using this
   have h2:=hB t 58
   dsimp only
   split
   · split
     · unfold a4g
       dsimp only
       have h3:((O8 t 58).drop 2).length≤t.length:=by simp;omega
       generalize (O8 t 58).drop 2=r0 at h3
       have h4:=hA r0 35
       have h4':=hB r0 35
       generalize F6 r0 35=r1 at h4
       have h5:=hA r1 63
       have h5':=hB r1 63
       generalize F6 r1 63=r2 at h5
       have h6:=hA r2 47
       generalize F6 r2 47=r3 at h6
       have h7:=hA r3 64
       have h7':(if 64∈r3 then O8 r3 64 else r3).length≤r3.length:=by
        split
        · exact hB r3 64
        · omega
       generalize (if 64∈r3 then O8 r3 64 else r3)=r4 at h7'
       have h8:(R9 (F6 r4 58)).length≤r4.length:=by have:=hA r4 58;simpa [R9] using this
       split
       · exact hz
       · rename_i p hp
         refine ⟨by show (R9 _).length < _;omega,?_,by show (R9 _).length < _;omega,?_,by show (O8 r1 63).length < _;omega,by show (O8 r0 35).length < _;omega,?_⟩
         · show (if 64∈r3 then F6 r3 64 else []).length < _
           split
           · omega
           · simp
         · show (if 47∈r2 then r2.drop (P4 r2 47) else [47]).length < _
           split
           · simp;omega
           · simp
         · show p≤_
           unfold a03 at hp
           split at hp
           · split at hp
             · split at hp
               · have:=Option.some.inj hp
                 split at this<;>omega
               · cases hp
             · cases hp
           · have:=Option.some.inj hp;omega
     · exact hz
   · have h3:=hA (O8 t 58) 35
     have h4:=hA (F6 (O8 t 58) 35) 63
     refine ⟨by show (R9 _).length < _;omega,by simp,by simp,by show (F6 _ _).length < _;omega,by simp,by simp,by show (0:Int)≤_;omega⟩
 · exact hz
def LTarget.Small (x:LTarget):Prop:=x.url.length < 1099511627776
end Go.KP
end
section
namespace Go.KP
def LUrl.Tiny (u:LUrl):Prop:=u.scheme.length < 1048577∧u.user.length < 1048577∧u.host.length < 1048577∧u.path.length < 1048577∧u.query.length < 1048577∧u.frag.length < 1048577∧(0≤u.port∧u.port≤65535)
theorem b6n {t:Tx} (ht:t.length < 1048577):(R5 t).1.Tiny:=by
 have hz:LUrl.zero.Tiny:=by simp [LUrl.Tiny,LUrl.zero]
 have hA:∀ (t:Tx) c,(F6 t c).length≤t.length:=S2
 have hB:∀ (t:Tx) c,(O8 t c).length≤t.length:=X4
 unfold R5
 split
 · have h1:(R9 (F6 t 58)).length≤t.length:=by have:=hA t 58;simpa [R9] using this
   have h2:=hB t 58
   dsimp only
   split
   · split
     · unfold a4g
       dsimp only
       have h3:((O8 t 58).drop 2).length≤t.length:=by simp;omega
       generalize (O8 t 58).drop 2=r0 at h3
       have h4:=hA r0 35
       have h4':=hB r0 35
       generalize F6 r0 35=r1 at h4
       have h5:=hA r1 63
       have h5':=hB r1 63
       generalize F6 r1 63=r2 at h5
       have h6:=hA r2 47
       generalize F6 r2 47=r3 at h6
       have h7:=hA r3 64
       have h7':(if 64∈r3 then O8 r3 64 else r3).length≤r3.length:=by
        split
        · exact hB r3 64
        · omega
       generalize (if 64∈r3 then O8 r3 64 else r3)=r4 at h7'
       have h8:(R9 (F6 r4 58)).length≤r4.length:=by have:=hA r4 58;simpa [R9] using this
       split
       · exact hz
       · rename_i p hp
         refine ⟨by show (R9 _).length < _;omega,?_,by show (R9 _).length < _;omega,?_,by show (O8 r1 63).length < _;omega,by show (O8 r0 35).length < _;omega,?_⟩
         · show (if 64∈r3 then F6 r3 64 else []).length < _
           split
           · omega
           · simp
         · show (if 47∈r2 then r2.drop (P4 r2 47) else [47]).length < _
           split
           · simp;omega
           · simp
         · show 0≤p∧p≤65535
           unfold a03 at hp
           split at hp
           · split at hp
             · split at hp
               · have:=Option.some.inj hp
                 split at this<;>omega
               · cases hp
             · cases hp
           · have:=Option.some.inj hp;omega
     · exact hz
   · have h3:=hA (O8 t 58) 35
     have h4:=hA (F6 (O8 t 58) 35) 63
     refine ⟨by show (R9 _).length < _;omega,by simp,by simp,by show (F6 _ _).length < _;omega,by simp,by simp,by show (0:Int)≤0∧(0:Int)≤65535;omega⟩
 · exact hz
end Go.KP
end
section
namespace Go.KP
def c34 (now:Int) (x:LPeer):Bool:=!x.gone && decide (x.retry≤now)
def chMatch (now b:Int) (x:LPeer):Bool:=c34 now x && decide (x.target.prio=b)
def chSum (now b:Int):List LPeer→Int
 | []=>0
 | x :: l=>(if chMatch now b x then x.target.weight else 0)+chSum now b l
structure ChInv (now:Int) (l:List LPeer) (a:Int×Int):Prop where
 lo:0≤a.2
 hi:a.2≤9*l.length
 sum:a.2=if a.2=0 then 0 else chSum now a.1 l
 low:∀ x∈l,c34 now x=true→a.1≤x.target.prio∧0 < a.2
 nine:a.2≠0→1≤a.1∧a.1≤9
end Go.KP
end
section
namespace Go.KP
def b24 (k:Nat) (out:Tx):Tx:=if h:k=0 then out else b24 (k / 10) (UInt8.ofNat (48+k % 10) :: out)
termination_by k
decreasing_by omega
theorem c1y (out:Tx):b24 0 out=out:=by rw [b24];simp
theorem c38 {k:Nat} (h:k≠0) (out:Tx):b24 k out=b24 (k / 10) (UInt8.ofNat (48+k % 10) :: out):=by
 conv=>lhs;rw [b24]
 simp [h]
def lmk (k:Nat):Tx:=if k=0 then [109,48] else 109 :: b24 k []
end Go.KP
end
section
namespace Go.KP
end Go.KP
end
section
namespace Go.KP
def bdS {α:Type} (B:Nat) (p:α→Prop) (l:List α):Prop:=l.length≤B∧∀ x∈l,p x
def cut (left:Int) (n:Nat):Int:=if left - n < 0 then -1 else left - n
def a8h (B:Nat) (x:LTarget):Prop:=x.url.length≤B
structure LGroup where
 name:Tx
 age:Int
 targets:List LTarget
 deriving DecidableEq
def b0o (B:Nat) (x:LGroup):Prop:=x.name.length≤B∧bdS B (a8h B) x.targets
structure LRule where
 name:Tx
 words:List Tx
 deriving DecidableEq
structure LPolicy where
 reportTo:Tx
 uris:List Tx
 rules:List LRule
 deriving DecidableEq
structure LViolation where
 document:Tx
 referrer:Tx
 blocked:Tx
 source:Tx
 directive:Tx
 sample:Tx
 line:Int
 column:Int
 redirected:Bool
 deriving DecidableEq
structure LReport where
 id:Int
 born:Int
 tries:Int
 body:Tx
 deriving DecidableEq
structure LQueue where
 items:List LReport
 recent:List Tx
 deriving DecidableEq
structure LChannel where
 group:LGroup
 peers:List LPeer
 queue:LQueue
 deriving DecidableEq
structure LEntry where
 kind:Int
 id:Int
 at_:Int
 deriving DecidableEq
structure LWire where
 at_:Int
 status:Int
 group:Tx
 url:Tx
 ids:List Int
 body:Tx
 lost:Bool
 deriving DecidableEq
structure LPipe where
 channels:List LChannel
 policy:LPolicy
 now:Int
 next:Int
 log:List LEntry
 wires:List LWire
 deriving DecidableEq
structure LEvent where
 kind:Int
 draw:Int
 status:Int
 ticks:Int
 text:Tx
 name:Tx
 violation:LViolation
 lost:Bool
 deriving DecidableEq
structure LParcel where
 id:Int
 age:Int
 body:Tx
 deriving DecidableEq
structure LBox where
 ids:List Int
 times:List Int
 bodies:List Tx
 deriving DecidableEq
end Go.KP
end
section
namespace Go.KP
def a09 (p q:UInt8→Bool) (t:Tx):Bool:=(t.take 1).all p && t.all q
theorem a4y {p q:UInt8→Bool} (hpq:∀ c,p c=true→q c=true) (t:Tx) (i:Nat) (h:i < t.length):a09 p q (t.take (i+1))=(a09 p q (t.take i) && (if i=0 then p t[i] else q t[i])):=by
 unfold a09
 rw [a06 t _ i h]
 by_cases hi:i=0
 · subst hi
   have:(t.take (0+1)).take 1=[t[0]]:=by
    cases t with
    | nil=>simp at h
    | cons c r=>simp
   rw [this]
   have:=hpq t[0]
   cases hp:p t[0]<;>simp_all
 · have e1:(t.take (i+1)).take 1=t.take 1:=by rw [List.take_take,Nat.min_eq_left (by omega)]
   have e2:(t.take i).take 1=t.take 1:=by rw [List.take_take,Nat.min_eq_left (by omega)]
   rw [e1,e2]
   simp [hi,Bool.and_assoc]
theorem a39 {p q:UInt8→Bool} (t:Tx) (i:Nat) (h:i < t.length) (hb:(if i=0 then p t[i] else q t[i])=false):a09 p q t=false:=by
 unfold a09
 by_cases hi:i=0
 · subst hi
   rw [if_pos rfl] at hb
   cases t with
   | nil=>simp at h
   | cons c r=>simp at hb;simp [hb]
 · rw [if_neg hi] at hb
   have:t.all q=false:=by rw [List.all_eq_false];exact ⟨t[i],List.getElem_mem h,by simp [hb]⟩
   simp [this]
def isUp (c:UInt8):Bool:=decide (65≤c.toNat∧c.toNat≤90)
def a0l (c:UInt8):Bool:=V7 c || isUp c || decide (c.toNat=95)
def a10 (c:UInt8):Bool:=a0l c || P8 c
def Z6 (t:Tx):Bool:=decide (1≤t.length∧t.length≤12) && a09 a0l a10 t
def a2i {α:Type} (l:List α) (p:α→Bool):Int:=match l.findIdx? p with
 | some i=>i
 | none=>-1
theorem b42 {α:Type} (l:List α) (p:α→Bool):decide (0≤a2i l p)=l.any p:=by
 unfold a2i
 cases h:l.findIdx? p with
 | none=>
  rw [List.findIdx?_eq_none_iff] at h
  rw [Bool.eq_iff_iff]
  simp only [decide_eq_true_eq,List.any_eq_true]
  constructor
  · intro h;omega
  · rintro ⟨x,hx,hp⟩;rw [h x hx] at hp;cases hp
 | some i=>
  rw [List.findIdx?_eq_some_iff_getElem] at h
  obtain ⟨hi,hp,_⟩:=h
  show decide (0≤(i:Int))=_
  rw [decide_eq_true (by omega)]
  symm
  rw [List.any_eq_true]
  exact ⟨l[i],List.getElem_mem hi,hp⟩
theorem a71 {α:Type} {l:List α} {p:α→Bool} {i:Nat} (hi:i < l.length) (hp:p l[i]=true) (h:∀ k (hk:k < i),p (l[k]'(by omega))=false):a2i l p=i:=by
 unfold a2i
 have:l.findIdx? p=some i:=by
  rw [List.findIdx?_eq_some_iff_getElem]
  exact ⟨hi,hp,fun j hj=>by simp [h j hj]⟩
 rw [this]
theorem a6d {α:Type} {l:List α} {p:α→Bool} (h:∀ k (hk:k < l.length),p l[k]=false):a2i l p=-1:=by
 unfold a2i
 have:l.findIdx? p=none:=by
  rw [List.findIdx?_eq_none_iff]
  intro x hx
  obtain ⟨k,hk,rfl⟩:=List.getElem_of_mem hx
  exact h k hk
 rw [this]
theorem b3r {α:Type} (l:List α) (p:α→Bool):(a2i l p=-1∧l.find? p=none)∨∃ i,∃ h:i < l.length,a2i l p=i∧l.find? p=some l[i]:=by
 unfold a2i
 cases h:l.findIdx? p with
 | none=>
  rw [List.findIdx?_eq_none_iff] at h
  exact .inl ⟨rfl,List.find?_eq_none.2 fun x hx=>by simp [h x hx]⟩
 | some i=>
  rw [List.findIdx?_eq_some_iff_getElem] at h
  obtain ⟨hi,hp,hlt⟩:=h
  exact .inr ⟨i,hi,rfl,List.find?_eq_some_iff_getElem.2 ⟨hp,i,hi,rfl,fun j hj=>by simpa using hlt j hj⟩⟩
def Z4 (t:Tx):Option Tx:=
 if (R5 t).2 && a0b (R5 t).1.scheme then some (X6 { (R5 t).1 with frag:=[],hasF:=false }) else none
theorem a72 {t:Tx} {c:UInt8} (h:c∈t):t.length=(F6 t c).length+1+(O8 t c).length:=by
 have:=V0.2 h
 unfold F6 O8
 simp;omega
theorem b6s (t:Tx):(R9 t).length=t.length:=by simp [R9]
theorem c1v {sc r:Tx} {p:Int} (h:a03 sc r=some p):r.length≤(F6 r 58).length+21:=by
 unfold a03 at h
 split at h
 · rename_i hm
   rw [a72 hm]
   split at h
   · rename_i n hn
     obtain ⟨_,_,u,_,_,h3,h4⟩:=a4x hn
     rcases h4 with ⟨h4,_⟩ | ⟨h4,_⟩
     · rw [h4];simp;omega
     · rw [h4];omega
   · cases h
 · rename_i hm
   rw [a0k hm];omega
theorem b8w {t:Tx} (h:(R5 t).2=true) (hw:a0b (R5 t).1.scheme=true):t.length≤200:=by
 have hok:=a8w h
 have hlen:=b1p hok
 unfold R5 at h hw hlen
 split at h
 · rename_i h58
   rw [if_pos h58] at hw hlen
   dsimp only at h hw hlen
   split at h
   · rename_i hsc
     rw [if_pos hsc] at hw hlen
     split at h
     · rename_i h2
       rw [if_pos h2] at hw hlen
       rw [a72 h58]
       have hr:(O8 t 58).length≤2+((O8 t 58).drop 2).length:=by simp;omega
       have hscl:=b6s (F6 t 58)
       generalize (O8 t 58).drop 2=r0 at *
       generalize R9 (F6 t 58)=sc at *
       unfold a4g at h hw hlen
       dsimp only at h hw hlen
       have k0:r0.length≤(F6 r0 35).length+(if 35∈r0 then 1+(O8 r0 35).length else 0):=by
        split
        · rename_i hm;rw [a72 hm];omega
        · rename_i hm;rw [a0k hm];omega
       generalize F6 r0 35=r1 at *
       have k1:r1.length≤(F6 r1 63).length+(if 63∈r1 then 1+(O8 r1 63).length else 0):=by
        split
        · rename_i hm;rw [a72 hm];omega
        · rename_i hm;rw [a0k hm];omega
       generalize F6 r1 63=r2 at *
       have k2:r2.length≤(F6 r2 47).length+(if 47∈r2 then r2.drop (P4 r2 47) else [47]).length:=by
        split
        · unfold F6;simp;omega
        · rename_i hm;rw [a0k hm];omega
       generalize (if 47∈r2 then r2.drop (P4 r2 47) else [47])=pa at *
       generalize F6 r2 47=r3 at *
       have k3:r3.length≤(if 64∈r3 then O8 r3 64 else r3).length+1+(if 64∈r3 then F6 r3 64 else []).length:=by
        split
        · rename_i hm;rw [a72 hm];omega
        · simp
       generalize (if 64∈r3 then O8 r3 64 else r3)=r4 at *
       generalize (if 64∈r3 then F6 r3 64 else [])=us at *
       cases hp:a03 sc r4 with
       | none=>rw [hp] at h;cases h
       | some p=>
        rw [hp] at hlen
        have k4:=c1v hp
        have k5:=b6s (F6 r4 58)
        dsimp only at hlen
        unfold X6 at hlen
        dsimp only at hlen
        rw [if_pos hsc] at hlen
        simp only [List.length_append,List.length_cons,List.length_nil] at hlen
        have q1:us.length≤(if us=[] then [] else us++[64]).length:=by split<;>simp_all
        have q2:(if 63∈r1 then 1+(O8 r1 63).length else 0)≤(if decide (63∈r1)=true then 63 :: O8 r1 63 else []).length:=by
         by_cases hm:63∈r1<;>simp [hm];omega
        have q3:(if 35∈r0 then 1+(O8 r0 35).length else 0)≤(if decide (35∈r0)=true then 35 :: O8 r0 35 else []).length:=by
         by_cases hm:35∈r0<;>simp [hm];omega
        omega
     · cases h
   · rename_i hsc
     rw [if_neg hsc] at hw
     exact absurd hw hsc
 · cases h
theorem b3a (t:Tx):a3h t=Z4 t:=by
 unfold a3h Z4
 by_cases hb:((R5 t).2 && a0b (R5 t).1.scheme)=true
 · have h:=hb
   simp only [Bool.and_eq_true] at h
   have hl:=b8w h.1 h.2
   rw [if_pos (by omega),if_pos hb,if_pos hb]
   rw [b64]
   exact (b6m (a8w h.1):0≤(R5 t).1.port)
 · rw [if_neg hb,if_neg hb];split<;>rfl
end Go.KP
end
section
namespace Go.KP
def mkL {α:Type} (f:Nat→α) (w n k:Nat):List α:=(List.range n).map fun j=>f (k+w*j)
theorem a2z {α:Type} (f:Nat→α) (w n k:Nat):(mkL f w n k).length=n:=by simp [mkL]
theorem mkL_at {α:Type} {f:Nat→α} {w n k j:Nat} (h:j < n):(mkL f w n k)[j]'(by rw [a2z];exact h)=f (k+w*j):=by simp [mkL]
theorem c31 {α:Type} (f:Nat→α) (w i k:Nat):mkL f w (i+1) k=mkL f w i k++[f (k+w*i)]:=by simp [mkL,List.range_succ]
def mkU {α:Type} (f:Nat→α) (w:Nat) (l:List α) (k i:Nat):List α:=mkL f w i k++l.drop i
theorem c30 {α:Type} (f:Nat→α) (w:Nat) (l:List α) (k:Nat):mkU f w l k 0=l:=by simp [mkU,mkL]
theorem mkU_all {α:Type} (f:Nat→α) (w:Nat) (l:List α) (k:Nat):mkU f w l k l.length=mkL f w l.length k:=by simp [mkU]
theorem mkU_len {α:Type} (f:Nat→α) (w:Nat) (l:List α) (k i:Nat) (h:i≤l.length):(mkU f w l k i).length=l.length:=by simp [mkU,a2z];omega
theorem mkU_set {α:Type} (f:Nat→α) (w:Nat) (l:List α) (k i:Nat) (h:i < l.length):(mkU f w l k i).set i (f (k+w*i))=mkU f w l k (i+1):=by
 unfold mkU
 rw [List.set_append_right _ _ (by rw [a2z];exact Nat.le_refl _),a2z,Nat.sub_self,List.drop_eq_getElem_cons h,List.set_cons_zero,c31,List.append_assoc]
 rfl
def S8 (k:Nat):LTarget:=⟨lmk k,((k+1:Nat):Int),((k+2:Nat):Int)⟩
end Go.KP
end
section
namespace Go.KP
end Go.KP
end
section
namespace Go.KP
end Go.KP
end
section
namespace Go.PW
open Go.RowKit Go.KP
theorem c28 {a b:UInt8}:((a.toNat:Int)=(b.toNat:Int))↔a=b:=by
 constructor
 · intro h;exact UInt8.toNat_inj.1 (by omega)
 · rintro rfl;rfl
def rvb (c:UInt8):RV:=.int .u8 c.toNat
def tx (t:Tx):RV:=.str (bs t)
def num (n:Int):RV:=.int .i64 n
theorem a5z (l:Tx):X0 (l.map rvb)=bs l:=by
 unfold X0 bs
 congr 1
 congr 1
 rw [List.map_map]
 have:(RV.byte ∘ rvb)=id:=by
  funext c
  simp [rvb,RV.byte]
 rw [this];simp
theorem a19 {x:Int} (h1:0≤x) (h2:x < 256):IntKind.u8.wrap x=x:=by
 unfold IntKind.wrap
 simp [IntKind.bits,IntKind.signed]
 omega
def W5 (u:LUrl):RV:=.agg [tx u.scheme,tx u.user,tx u.host,num u.port,tx u.path,tx u.query,tx u.frag,.bool u.hasQ,.bool u.hasF]
end Go.PW
end
section
namespace Go.PW
open Go.RowKit Go.KP
variable [GF]
theorem b6c (φ:Nat→Option RV) (rs:List RV):PV.plL (PV.frzL φ (rs.map .val))=rs.map .val:=by
 induction rs with
 | nil=>rfl
 | cons r rs ih=>simp [PV.frzL,PV.plL,PV.frz,PV.pl,ih]
theorem c0i {st:St} {s n t id:Nat} {rs:List RV} {r:RV} (h1:st.env s=.ptr id 0) (h2:st.mem id=.box (rs.map .val)) (h3:rs.length=n) (h4:0 < n) (h5:st.env t=.val r) :
 R1 [.c s true n,.t t] st.fin=some (.tup [O9 (rs.map .val),.val r]):=by
 have e1:st.fin.env s=.ptr id 0:=by rw [J7,h1];simp [PV.frz,R8,h2,PV.pl]
 have e2:st.fin.mem id=.box (rs.map .val):=by
  simp only [St.fin,St.freeze,h2,MObj.pl,b6c]
 have e3:st.fin.env t=.val r:=by rw [J7,h5];rfl
 simp only [R1,U6,a12,e1,e2,e3]
 simp only [List.length_map,h3,Nat.zero_add,List.drop_zero,if_true]
 rw [if_pos ⟨by omega,h4⟩,List.take_of_length_le (by simp [h3])]
 rfl
def a9e (u:LUrl):List RV:=[tx u.scheme,tx u.user,tx u.host,num u.port,tx u.path,tx u.query,tx u.frag,.bool u.hasQ,.bool u.hasF]
def d7 (u:LUrl):List PV:=[.val (tx u.scheme),.val (tx u.user),.val (tx u.host),.val (num u.port),.val (tx u.path),.val (tx u.query),.val (tx u.frag),.val (.bool u.hasQ),.val (.bool u.hasF)]
theorem a9f (u:LUrl):d7 u=(a9e u).map .val:=rfl
def a4e (r:LUrl×Bool):PV:=.tup [.val (W5 r.1),.val (.bool r.2)]
theorem b3p (u:LUrl):O9 ((a9e u).map .val)=.val (W5 u):=by simp [a9e,O9,b8,W5]
theorem a5h {st:St} {s t id:Nat} {u:LUrl} {b:Bool} (h1:st.env s=.ptr id 0) (h2:st.mem id=.box (d7 u)) (h5:st.env t=.val (.bool b)):R1 [.c s true 9,.t t] st.fin=some (a4e (u,b)):=by
 rw [c0i (n:=9) (rs:=a9e u) h1 (by rw [h2,a9f]) rfl (by omega) h5,b3p]
 rfl
def J9 (x:LTarget):RV:=.agg [tx x.url,num x.prio,num x.weight]
def c3f (x:LPeer):RV:=.agg [tx x.target.url,num x.target.prio,num x.target.weight,num x.fails,num x.retry,.bool x.gone]
theorem b2j {P:Program} {st:St} {Ke:Kx (PV→St→Prop)} {kx:Kx (RV→St→Prop)} {d f ps as p} (ha:Q4 st.mem ps=some as) (hb:boxIds ps=[]) (hs:∀ b,p.shift b=p) (ho:p.ownLt 0=true) (hr:ps.all PV.noOwn=true∨p.flat=true) (h:z6 P f as (.ret p []) []) (hK:Ke.k p st):KC P st d f ps (Ke:=Ke) (kx:=kx):=by
 refine a3k (K:=fun q st'=>q=p∧st'=st) (kx:=fun _ _=>False) (fun p s hh=>by obtain ⟨rfl,rfl⟩:=hh;exact hK) (fun _ _ hh=>hh.elim) (a3y ?_)
 unfold a2o
 rw [ha]
 exact ⟨hb,p,h,hs,ho,hr,rfl⟩
theorem c5e {P:Program} {st:St} {Kp:Kx (PV→Prop)} {f ps as p} (ha:Q4 st.mem ps=some as) (hb:boxIds ps=[]) (hs:∀ b,p.shift b=p) (ho:p.ownLt 0=true) (hr:ps.all PV.noOwn=true∨p.flat=true) (h:z6 P f as (.ret p []) []) (hK:Kp.k p):KX P st f ps (Kp:=Kp):=by
 unfold KX a2o
 rw [ha]
 exact ⟨hb,p,h,hs,ho,hr,hK⟩
theorem P7 {P:Program} {st:St} {Ke:Kx (PV→St→Prop)} {kx:Kx (RV→St→Prop)} {d f ps as a b} (ha:Q4 st.mem ps=some as) (hb:boxIds ps=[]) (hr:ps.all PV.noOwn=true∨(PV.tup [.val a,.val b]).flat=true) (h:z6 P f as (.ret (.tup [.val a,.val b]) []) []) (hK:Ke.k (.tup [.val a,.val b]) st):KC P st d f ps (Ke:=Ke) (kx:=kx):=
 b2j ha hb (fun _=>rfl) rfl hr h hK
theorem a6h {P:Program} {st:St} {Kp:Kx (PV→Prop)} {f ps as a b} (ha:Q4 st.mem ps=some as) (hb:boxIds ps=[]) (hr:ps.all PV.noOwn=true∨(PV.tup [.val a,.val b]).flat=true) (h:z6 P f as (.ret (.tup [.val a,.val b]) []) []) (hK:Kp.k (.tup [.val a,.val b])):KX P st f ps (Kp:=Kp):=
 c5e ha hb (fun _=>rfl) rfl hr h hK
theorem a0q {P:Program} {st:St} {Ke:Kx (PV→St→Prop)} {kx:Kx (RV→St→Prop)} {d f ps as a b c} (ha:Q4 st.mem ps=some as) (hb:boxIds ps=[]) (hr:ps.all PV.noOwn=true∨(PV.tup [.val a,.val b,.val c]).flat=true) (h:z6 P f as (.ret (.tup [.val a,.val b,.val c]) []) []) (hK:Ke.k (.tup [.val a,.val b,.val c]) st):KC P st d f ps (Ke:=Ke) (kx:=kx):=
 b2j ha hb (fun _=>rfl) rfl hr h hK
end Go.PW
end
section
namespace Go.PW
open Go.RowKit Go.KP
variable [GF]
def RV.sv:RV→Option Value
 | .str s=>some (.string s)
 | .int k n=>some (.int k n)
 | .bool b=>some (.bool b)
 | _=>none
def svs:List RV→Option (List Value)
 | []=>some []
 | r :: rs=>match r.sv,svs rs with
  | some v,some vs=>some (v :: vs)
  | _,_=>none
theorem sv_rep {L:Nat→Prop} {w:World} {r:RV} {v u:Value} (h:r.sv=some v) (hr:RepR L w r u):u=v:=by
 cases hr with
 | bool b=>simpa [RV.sv] using h
 | int k n=>simpa [RV.sv] using h
 | str s=>simpa [RV.sv] using h
 | _=>simp [RV.sv] at h
theorem c0d {L:Nat→Prop} {w:World} {r:RV} {v:Value} (h:r.sv=some v):RepR L w r v:=by
 cases r with
 | bool b=>simp [RV.sv] at h;subst h;exact .bool b
 | int k n=>simp [RV.sv] at h;subst h;exact .int k n
 | str s=>simp [RV.sv] at h;subst h;exact .str s
 | _=>simp [RV.sv] at h
theorem b5o {L:Nat→Prop} {w:World}:∀ {rs:List RV} {vals vs:List Value} {ms:List Nat},svs rs=some vals→ArgsRep L w (rs.map .val) vs ms→vs=vals∧ms=[]
 | [],vals,vs,ms,h,hr=>by
  simp [svs] at h;subst h
  cases hr;exact ⟨rfl,rfl⟩
 | r :: rs,vals,vs,ms,h,hr=>by
  rw [List.map_cons] at hr
  cases hr with
  | cons _ _ v vs' ms1 ms2 h1 h2=>
   cases h1 with
   | val _ _ h1=>
    simp only [svs] at h
    split at h
    · rename_i v' vs'' e1 e2
      obtain ⟨rfl,rfl⟩:=b5o e2 h2
      have:=sv_rep e1 h1
      subst this
      have:=Option.some.inj h
      exact ⟨this,rfl⟩
    · cases h
theorem a9r {F:Ctx} {γ:Nat→Value} {w:World}:MemInv F γ (Q0 []) w:=
 ⟨fun id cs h=>by simp [Q0] at h,fun id E sz xs h=>by simp [Q0] at h,fun id E sz n c h=>by simp [Q0] at h,fun id s clk m h=>by simp [Q0] at h,fun id id' b h=>by simp [Q0,MObj.live] at h⟩
theorem b39 {P:Program} {f:Nat} {rs:List RV} {vals:List Value} {p:PV} {v:Value} (ha:svs rs=some vals) (hp:∀ γ L w,RepP γ L w p v)
 (h:∀ L w,Globs L w→b2x L w→Calls P f vals.toArray w fun e w'=>e=.returned v∧Below w.heap.size w w'):z6 P f (rs.map .val) (.ret p []) []:=by
 intro L w vs ms hL hgl hgb hargs hnd
 obtain ⟨rfl,rfl⟩:=b5o ha hargs
 refine (h L w hgl hgb).mono fun e w' ⟨he,hb⟩=>?_
 exact ⟨Outside.of_below hb,v,fun _=>undef,he,hp _ _ _,a9r,rfl,fun i b cells h1 h2=>by simp at h1⟩
theorem a18 {P:Program} {f:Nat} {rs:List RV} {vals:List Value} {r:RV} {v:Value} (ha:svs rs=some vals) (hv:r.sv=some v)
 (h:∀ L w,Globs L w→b2x L w→Calls P f vals.toArray w fun e w'=>e=.returned v∧Below w.heap.size w w'):z6 P f (rs.map .val) (.ret (.val r) []) []:=
 b39 ha (fun γ L w=>.val _ _ (c0d hv)) h
theorem b01:∀ {rs:List RV} {vals:List Value},svs rs=some vals→vals.length=rs.length
 | [],vals,h=>by simp [svs] at h;subst h;rfl
 | r :: rs,vals,h=>by
  simp only [svs] at h
  split at h
  · rename_i v vs e1 e2
    have:=b01 e2
    have h:=Option.some.inj h
    subst h;simp [this]
  · cases h
theorem b5v {L:Nat→Prop} {w:World}:∀ {rs:List RV} {vals:List Value},svs rs=some vals→∀ i,i < rs.length→RepR L w (rs.getD i .nilptr) (vals.getD i undef)
 | [],vals,h,i,hi=>by simp at hi
 | r :: rs,vals,h,i,hi=>by
  simp only [svs] at h
  split at h
  · rename_i v vs e1 e2
    have h:=Option.some.inj h
    subst h
    cases i with
    | zero=>simpa using c0d e1
    | succ i=>simpa using b5v e2 i (by simpa using hi)
  · cases h
theorem b2k {P:Program} {f:Nat} {rs:List RV} {vals:List Value} {qs:List RV} {us:List Value} (ha:svs rs=some vals) (hv:svs qs=some us)
 (h:∀ L w,Globs L w→b2x L w→Calls P f vals.toArray w fun e w'=>e=.returned (.tuple us.toArray)∧Below w.heap.size w w'):z6 P f (rs.map .val) (.ret (.tup (qs.map .val)) []) []:=
 b39 ha (fun γ L w=>.tup _ _ (by simp [b01 hv]) fun i hi=>by
  have hi':i < qs.length:=by simpa using hi
  have e1:(qs.map PV.val).getD i .undef=.val (qs.getD i .nilptr):=by simp [List.getD_eq_getElem?_getD,List.getElem?_eq_getElem hi']
  have e2:us.toArray.getD i undef=us.getD i undef:=by simp [List.getD_eq_getElem?_getD,Array.getD_eq_getD_getElem?]
  rw [e1,e2]
  exact .val _ _ (b5v hv i hi')) h
theorem a3n {w w':World} (h:w'=w):Below w.heap.size w w':=by subst h;exact Below.refl _ _
end Go.PW
end
section
namespace Go.PW
open Go.RowKit Go.KP
variable [GF]
def b2w (M:Nat→MObj):List Nat→List (List RV)→Prop
 | [],[]=>True
 | id :: ids,b :: bs=>M id=.box (b.map .val)∧b2w M ids bs
 | _,_=>False
def W0 (M:Nat→MObj):Nat→List (List RV)→Prop
 | _,[]=>True
 | k,b :: bs=>M (900+k)=.box (b.map .val)∧W0 M (k+1) bs
theorem a6s:∀ {M:Nat→MObj} {ids:List Nat} {B:List (List RV)},b2w M ids B→U5 M ids B=M
 | M,[],[],_=>rfl
 | M,id :: ids,b :: bs,h=>by
  have e:upd id (.box (b.map .val)) M=M:=by
   funext x
   by_cases hx:x=id
   · subst hx;rw [R4,h.1]
   · rw [R0 _ _ _ _ hx]
  simp only [U5]
  rw [e]
  exact a6s h.2
 | M,[],_ :: _,h=>h.elim
 | M,_ :: _,[],h=>h.elim
theorem b3k:∀ {M:Nat→MObj} {ids:List Nat} {B:List (List RV)},b2w M ids B→B.length=ids.length
 | M,[],[],_=>rfl
 | M,id :: ids,b :: bs,h=>by simp [b3k h.2]
 | M,[],_ :: _,h=>h.elim
 | M,_ :: _,[],h=>h.elim
theorem b5r (b:List RV):N3 (b.map .val)=some b:=by
 induction b with
 | nil=>rfl
 | cons r b ih=>simp [N3,ih]
theorem a44 {st:St}:∀ {k:Nat} {B:List (List RV)},W0 st.mem k B→a3m st.fin k B
 | k,[],_=>trivial
 | k,b :: B,h=>by
  have e2:st.fin.mem (900+k)=.box (b.map .val):=by
   simp only [St.fin,St.freeze,h.1,MObj.pl,b6c]
  exact ⟨by rw [e2];exact b5r b,a44 h.2⟩
def RetB (res:List Rs) (p:PV) (B:List (List RV)):PExit→St→Prop
 | .normal,st=>R1 res st.fin=some p∧W0 st.mem 0 B
 | .ret,st=>R1 res st.fin=some p∧W0 st.mem 0 B
 | _,_=>False
@[simp] theorem a8i {res p B} {st:St}:RetB res p B .ret st=(R1 res st.fin=some p∧W0 st.mem 0 B):=by rfl
@[simp] theorem RetB_normal {res p B} {st:St}:RetB res p B .normal st=(R1 res st.fin=some p∧W0 st.mem 0 B):=by rfl
theorem a9a {P:Program} {f:Nat} {c:PC} {res:List Rs} {as:List AV} {p:PV} {B:List (List RV)} (hm:P.follows .mixedOrders=true) (hc:N5 P f c as.length res=true) (hb:b9 as=B) (hp:∀ ι,p.ren ι=p)
 (h:W4 P c (w8 as) (RetB res p B)):z6 P f as (.ret p []) B:=by
 refine b0m hm hc (V5 (fun e s hh=>?_) h)
 have key:R1 res s.fin=some p∧W0 s.mem 0 B→∃ st',Le s st'∧b5q res (b9 as).length (.ret p []) B .ret st':=fun hh=>
  ⟨s.fin,(Le.freeze s _).trans (Le.plain _),(by rw [hb]),⟨⟨id,by rw [hp];exact hh.1,fun i j hi=>by simp at hi,fun i r hr=>by simp at hr⟩,a44 hh.2⟩⟩
 cases e with
 | normal=>exact key hh
 | ret=>exact key hh
 | exit id=>exact hh.elim
 | pan r=>exact hh.elim
theorem a73 (st:St):st.kill (fun _=>false)=st:=by
 cases st with
 | mk env mem=>
  simp only [St.kill,PV.kill_none]
  congr 1
  funext x
  cases mem x with
  | dead=>rfl
  | row E sz xs=>rfl
  | box cs=>simp [MObj.kill,PV.killL_none]
  | prow E sz n c=>simp [MObj.kill,PV.kill_none]
  | map s clk m => 
   have:(fun k=>(m k).map fun p=>(p.1.kill fun _=>false,p.2))=m:=by funext k;cases m k<;>simp [PV.kill_none]
   simp only [MObj.kill,this];rfl
theorem a7k {P:Program} {st:St} {Ke:Kx (PV→St→Prop)} {kx:Kx (RV→St→Prop)} {d f ps as r ids B} (ha:Q4 st.mem ps=some as) (hb:boxIds ps=ids) (hn:ids.Nodup) (hlt:ids.all (· < P3 d)=true) (hB:b2w st.mem ids B) (hr:ps.all PV.noOwn=true)
 (h:z6 P f as (.ret (.val r) []) B) (hK:Ke.k (.val r) st):KC P st d f ps (Ke:=Ke) (kx:=kx):=by
 unfold KC
 refine .inl ?_
 unfold a4a
 rw [ha]
 refine ⟨by rw [hb];exact hn,by rw [hb];exact hlt,.ret (.val r) [],B,h,by rw [hb];exact b3k hB,rfl,.inl hr,?_⟩
 have e:(fun i=>decide (P3 d≤i) && decide (i < P3 d+([]:List Row).length))=fun _=>false:=by
  funext i
  simp only [List.length_nil,Nat.add_zero,Bool.and_eq_false_imp,decide_eq_true_eq,decide_eq_false_iff_not]
  omega
 rw [e,a73]
 simp only [a1n,hb]
 rw [a6s hB]
 exact hK
end Go.PW
end
section
namespace Go.PW
open Go.RowKit Go.KP
def Z7 (o:Option Tx):PV:=.tup [.val (tx (o.getD [])),.val (.bool o.isSome)]
def Y4 {α:Type} (sz id:Nat):List α→PV
 | []=>.emp sz
 | _ :: _=>.own id
def a3s {α:Type} (E sz:Nat) (r:α→RV):List α→MObj
 | []=>.dead
 | x :: xs=>.row E sz ((x :: xs).map r)
@[simp] theorem ownOr_nil {α:Type} (sz id:Nat):Y4 sz id ([]:List α)=.emp sz:=rfl
@[simp] theorem ownOr_cons {α:Type} (sz id:Nat) (x:α) (xs:List α):Y4 sz id (x :: xs)=.own id:=rfl
@[simp] theorem rowOr_nil {α:Type} (E sz:Nat) (r:α→RV):a3s E sz r []=.dead:=rfl
@[simp] theorem rowOr_cons {α:Type} (E sz:Nat) (r:α→RV) (x:α) (xs:List α):a3s E sz r (x :: xs)=.row E sz (r x :: xs.map r):=rfl
theorem b1g {α:Type} (sz id:Nat) (xs:List α) (x:α):Y4 sz id (xs++[x])=.own id:=by cases xs<;>rfl
theorem b1c {α:Type} (E sz:Nat) (r:α→RV) (xs:List α) (x:α):a3s E sz r (xs++[x])=.row E sz (xs.map r++[r x]):=by cases xs<;>simp [a3s]
theorem Le.mkD [GF] {st:St} (le:List (Nat×PV)) (lm:List (Nat×MObj)) (h1:∀ kp∈le,st.env kp.1=kp.2) (h2:∀ kp∈lm,kp.2=.dead∨st.mem kp.1=kp.2):Le st ⟨S7 le,S0 lm⟩:=by
 refine Le.drop (fun i=>?_) (fun x=>?_)
 · show S0 lm i=st.mem i∨S0 lm i=.dead
   induction lm with
   | nil=>exact .inr rfl
   | cons kp lm ih=>
    obtain ⟨k,o⟩:=kp
    simp only [S0]
    split
    · rename_i e;subst e
      rcases h2 (i,o) (by simp) with h | h
      · exact .inr h
      · exact .inl h.symm
    · exact ih fun kp hkp=>h2 kp (by simp [hkp])
 · show Wk (st.env x) (S7 le x)
   induction le with
   | nil=>exact .undef _
   | cons kp le ih=>
    obtain ⟨k,p⟩:=kp
    simp only [S7]
    split
    · rename_i e;subst e;rw [h1 (x,p) (by simp)];exact .refl p
    · exact ih fun kp hkp=>h1 kp (by simp [hkp])
@[simp] theorem rvTarget_len (x:LTarget):(J9 x).cells.length=3:=rfl
@[simp] theorem rvPeer_len (x:LPeer):(c3f x).cells.length=6:=rfl
def Z1 (x:LGroup):RV:=.agg [tx x.name,num x.age,.list 3 (x.targets.map J9)]
@[simp] theorem rvGroup_len (x:LGroup):(Z1 x).cells.length=3:=rfl
def b79 (x:LRule):RV:=.agg [tx x.name,.list 1 (x.words.map tx)]
@[simp] theorem rvRule_len (x:LRule):(b79 x).cells.length=2:=rfl
def c3e (x:LPolicy):RV:=.agg [tx x.reportTo,.list 1 (x.uris.map tx),.list 2 (x.rules.map b79)]
@[simp] theorem rvPolicy_len (x:LPolicy):(c3e x).cells.length=3:=rfl
def b51 (x:LViolation):RV:=.agg [tx x.document,tx x.referrer,tx x.blocked,tx x.source,tx x.directive,tx x.sample,num x.line,num x.column,.bool x.redirected]
@[simp] theorem c25 (x:LViolation):(b51 x).cells.length=9:=rfl
def b1a (x:LReport):RV:=.agg [num x.id,num x.born,num x.tries,tx x.body]
@[simp] theorem rvReport_len (x:LReport):(b1a x).cells.length=4:=rfl
def rvQueue (x:LQueue):RV:=.agg [.list 4 (x.items.map b1a),.list 1 (x.recent.map tx)]
@[simp] theorem rvQueue_len (x:LQueue):(rvQueue x).cells.length=2:=rfl
def b3l (x:LChannel):RV:=.agg [tx x.group.name,num x.group.age,.list 3 (x.group.targets.map J9),.list 6 (x.peers.map c3f),.list 4 (x.queue.items.map b1a),.list 1 (x.queue.recent.map tx)]
@[simp] theorem rvChannel_len (x:LChannel):(b3l x).cells.length=6:=rfl
def c0f (x:LEntry):RV:=.agg [num x.kind,num x.id,num x.at_]
@[simp] theorem rvEntry_len (x:LEntry):(c0f x).cells.length=3:=rfl
def c3d (x:LWire):RV:=.agg [num x.at_,num x.status,tx x.group,tx x.url,.list 1 (x.ids.map num),tx x.body,.bool x.lost]
@[simp] theorem rvWire_len (x:LWire):(c3d x).cells.length=7:=rfl
def rvPipe (x:LPipe):RV:=.agg [.list 6 (x.channels.map b3l),tx x.policy.reportTo,.list 1 (x.policy.uris.map tx),.list 2 (x.policy.rules.map b79),num x.now,num x.next,.list 3 (x.log.map c0f),.list 7 (x.wires.map c3d)]
@[simp] theorem rvPipe_len (x:LPipe):(rvPipe x).cells.length=8:=rfl
def rvEvent (x:LEvent):RV:=.agg [num x.kind,num x.draw,num x.status,num x.ticks,tx x.text,tx x.name,tx x.violation.document,tx x.violation.referrer,tx x.violation.blocked,tx x.violation.source,tx x.violation.directive,tx x.violation.sample,num x.violation.line,num x.violation.column,.bool x.violation.redirected,.bool x.lost]
@[simp] theorem rvEvent_len (x:LEvent):(rvEvent x).cells.length=16:=rfl
def c3g (x:LParcel):RV:=.agg [num x.id,num x.age,tx x.body]
@[simp] theorem rvParcel_len (x:LParcel):(c3g x).cells.length=3:=rfl
def rvBox (x:LBox):RV:=.agg [.list 1 (x.ids.map num),.list 1 (x.times.map num),.list 1 (x.bodies.map tx)]
@[simp] theorem rvBox_len (x:LBox):(rvBox x).cells.length=3:=rfl
end Go.PW
end
section
namespace Go.KP
inductive LJson where
 | mk (kind num:Int) (text:Tx) (names:List Tx) (items:List LJson)
def LJson.kind:LJson→Int | .mk k _ _ _ _=>k
def LJson.num:LJson→Int | .mk _ n _ _ _=>n
def LJson.text:LJson→Tx | .mk _ _ t _ _=>t
def LJson.names:LJson→List Tx | .mk _ _ _ ns _=>ns
def LJson.items:LJson→List LJson | .mk _ _ _ _ is=>is
end Go.KP
end
section
namespace Go.PW
open Go.KP
mutual
def N6:LJson→RV
 | .mk k n t ns is=>.agg [num k,num n,tx t,.list 1 (ns.map tx),.list 5 (a0t is)]
def a0t:List LJson→List RV
 | []=>[]
 | x :: xs=>N6 x :: a0t xs
end
theorem b52 (l:List LJson):a0t l=l.map N6:=by
 induction l with
 | nil=>rfl
 | cons x xs ih=>simp [a0t,ih]
theorem N4 (k n:Int) (t:Tx) (ns:List Tx) (is:List LJson):N6 (.mk k n t ns is)=.agg [num k,num n,tx t,.list 1 (ns.map tx),.list 5 (is.map N6)]:=by rw [N6,b52]
end Go.PW
end
section
namespace Go.KP
inductive JR (α:Type) where
 | err (c:Int)
 | ok (v:α) (i:Nat)
def jws (c:UInt8):Bool:=decide (c.toNat=32∨c.toNat=9∨c.toNat=10∨c.toNat=13)
def f5 (t:Tx) (i:Nat):Nat:=i+((t.drop i).takeWhile jws).length
theorem b6x {t:Tx} {i:Nat} (h:i < t.length) (hw:jws t[i]=true):f5 t i=f5 t (i+1):=by
 unfold f5
 rw [List.drop_eq_getElem_cons h,List.takeWhile_cons,if_pos hw]
 simp;omega
theorem b6y {t:Tx} {i:Nat} (h:i < t.length) (hw:jws t[i]=false):f5 t i=i:=by
 unfold f5
 rw [List.drop_eq_getElem_cons h,List.takeWhile_cons,if_neg (by simp [hw])]
 simp
theorem b3t {t:Tx} {i:Nat} (h:t.length≤i):f5 t i=i:=by
 unfold f5
 rw [List.drop_eq_nil_of_le h];simp
theorem S4 {t:Tx} {i:Nat} (h:i≤t.length):f5 t i≤t.length:=by
 have h1:=(List.takeWhile_sublist (p:=jws) (l:=t.drop i)).length_le
 rw [List.length_drop] at h1
 unfold f5;omega
def a3i (c:UInt8):Option Nat:=if 48≤c.toNat∧c.toNat≤57 then some (c.toNat - 48) else if 97≤c.toNat∧c.toNat≤102 then some (c.toNat - 87) else if 65≤c.toNat∧c.toNat≤70 then some (c.toNat - 55) else none
theorem a8c {c:UInt8} {n:Nat} (h:a3i c=some n):n < 16:=by
 unfold a3i at h
 split at h
 · cases h;omega
 · split at h
   · cases h;omega
   · split at h
     · cases h;omega
     · cases h
def a3u (c:UInt8):Option UInt8:=if c=34∨c=92∨c=47 then some c else if c=98 then some 8 else if c=102 then some 12 else if c=110 then some 10 else if c=114 then some 13 else if c=116 then some 9 else none
def a81 (t:Tx) (i:Nat):Option (UInt8×Nat):=
 if i < t.length then match a3u (t.getD i 0) with
  | some b=>some (b,i+1)
  | none=>if t.getD i 0=117∧i+5≤t.length∧t.getD (i+1) 0=48∧t.getD (i+2) 0=48 then match a3i (t.getD (i+3) 0),a3i (t.getD (i+4) 0) with
   | some a,some b=>some (UInt8.ofNat (16*a+b),i+5)
   | _,_=>none
   else none
 else none
theorem b47 {t:Tx} {i:Nat} {b:UInt8} {k:Nat} (h:a81 t i=some (b,k)):i < k∧k≤t.length:=by
 unfold a81 at h
 split at h
 · rename_i hi
   split at h
   · cases h;omega
   · split at h
     · rename_i hh
       split at h
       · cases h;omega
       · cases h
     · cases h
 · cases h
def b45 (t:Tx):Nat→Nat→Tx→JR Tx
 | 0,_,_=>.err 3
 | n+1,i,out=>if i < t.length then
  (if t.getD i 0=34 then (if 120 < out.length then .err 8 else .ok out (i+1))
   else if t.getD i 0=92 then (match a81 t (i+1) with | some (b,k)=>b45 t n k (out++[b]) | none=>.err 3)
   else if 32≤(t.getD i 0).toNat∧(t.getD i 0).toNat≤126 then b45 t n (i+1) (out++[t.getD i 0]) else .err 3)
  else .err 3
def a2b (t:Tx) (i:Nat):JR Tx:=if i < t.length∧t.getD i 0=34 then b45 t (t.length+1) (i+1) [] else .err 3
theorem b44 {t:Tx}:∀ {n i:Nat} {out v:Tx} {k:Nat},b45 t n i out=.ok v k→v.length≤120∧i < k∧k≤t.length
 | 0,i,out,v,k,h=>by cases h
 | n+1,i,out,v,k,h=>by
  unfold b45 at h
  split at h
  · rename_i hi
    split at h
    · split at h
      · cases h
      · cases h;omega
    · split at h
      · split at h
        · rename_i b k2 hb
          have:=b44 h
          have:=b47 hb
          omega
        · cases h
      · split at h
        · have:=b44 h;omega
        · cases h
  · cases h
theorem a1e {t:Tx} {i:Nat} {v:Tx} {k:Nat} (h:a2b t i=.ok v k):v.length≤120∧i < k∧k≤t.length:=by
 unfold a2b at h
 split at h
 · have:=b44 h;omega
 · cases h
def a04 (t:Tx) (i:Nat):Nat:=i+((t.drop i).takeWhile P8).length
theorem b3y {t:Tx} {i:Nat} (h:i < t.length) (hw:P8 t[i]=true):a04 t i=a04 t (i+1):=by
 unfold a04
 rw [List.drop_eq_getElem_cons h,List.takeWhile_cons,if_pos hw]
 simp;omega
theorem b11 {t:Tx} {i:Nat} (h:i < t.length) (hw:P8 t[i]=false):a04 t i=i:=by
 unfold a04
 rw [List.drop_eq_getElem_cons h,List.takeWhile_cons,if_neg (by simp [hw])]
 simp
theorem a82 {t:Tx} {i:Nat} (h:t.length≤i):a04 t i=i:=by
 unfold a04
 rw [List.drop_eq_nil_of_le h];simp
theorem c4l (t:Tx) (i:Nat):i≤a04 t i:=by unfold a04;omega
theorem c4k {t:Tx} {i:Nat} (h:i≤t.length):a04 t i≤t.length:=by
 have h1:=(List.takeWhile_sublist (p:=P8) (l:=t.drop i)).length_le
 rw [List.length_drop] at h1
 unfold a04;omega
def a2j (t:Tx) (i:Nat):Nat:=if i < t.length∧t.getD i 0=45 then i+1 else i
theorem b1w {t:Tx} {i:Nat} (h:i≤t.length):i≤a2j t i∧a2j t i≤t.length:=by unfold a2j;split<;>omega
def a1z (t:Tx) (i:Nat):Nat:=a04 t (a2j t i)
theorem a77 {t:Tx} {i:Nat} (h:i≤t.length):i≤a1z t i∧a1z t i≤t.length:=by
 have h1:=b1w h
 have h2:=c4l t (a2j t i)
 have h3:=c4k h1.2
 unfold a1z;omega
def a5k (t:Tx) (i:Nat):JR Int:=match U4 ((t.take (a1z t i)).drop i) with
 | none=>.err 3
 | some n=>if -999999999≤n∧n≤999999999 then .ok n (a1z t i) else .err 4
def jnull:Tx:=[110,117,108,108]
def jtrue:Tx:=[116,114,117,101]
def jfalse:Tx:=[102,97,108,115,101]
def O7 (t w:Tx) (i:Nat):Bool:=decide ((t.take (i+w.length)).drop i=w)
def a9t (V:Nat→JR LJson) (t:Tx) (e:UInt8) (K:Nat→List Tx→List LJson→JR (List Tx×List LJson)) (k:Nat) (ns:List Tx) (xs:List LJson):JR (List Tx×List LJson):=match V k with
 | .err c=>.err c
 | .ok x k=>if 12 < xs.length+1 then .err 6 else
  if f5 t k < t.length∧t.getD (f5 t k) 0=e then .ok (ns,xs++[x]) (f5 t k+1)
  else if f5 t k < t.length∧t.getD (f5 t k) 0=44 then K (f5 t k+1) ns (xs++[x]) else .err 3
def a34 (V:Nat→JR LJson) (t:Tx) (obj:Bool) (e:UInt8):Nat→Nat→List Tx→List LJson→JR (List Tx×List LJson)
 | 0,_,_,_=>.err 6
 | n+1,i,ns,xs=>match obj with
  | false=>a9t V t e (a34 V t obj e n) (f5 t i) ns xs
  | true=>match a2b t (f5 t i) with
   | .err c=>.err c
   | .ok nm k=>if nm∈ns then .err 13 else
    if f5 t k < t.length∧t.getD (f5 t k) 0=58 then a9t V t e (a34 V t obj e n) (f5 t k+1) (ns++[nm]) xs else .err 3
def a6w (V:Nat→JR LJson) (t:Tx) (obj:Bool) (e:UInt8) (i:Nat):JR (List Tx×List LJson):=
 if f5 t i < t.length∧t.getD (f5 t i) 0=e then .ok ([],[]) (f5 t i+1) else a34 V t obj e 13 (f5 t i) [] []
def jmk (k:Int):JR (List Tx×List LJson)→JR LJson
 | .err c=>.err c
 | .ok v i=>.ok (.mk k 0 [] v.1 v.2) i
def a7b (t:Tx):Nat→Nat→JR LJson
 | d,i=>if f5 t i < t.length then
  (match t.getD (f5 t i) 0 with
   | 110=>if O7 t jnull (f5 t i) then .ok (.mk 1 0 [] [] []) (f5 t i+4) else .err 3
   | 116=>if O7 t jtrue (f5 t i) then .ok (.mk 2 1 [] [] []) (f5 t i+4) else .err 3
   | 102=>if O7 t jfalse (f5 t i) then .ok (.mk 2 0 [] [] []) (f5 t i+5) else .err 3
   | 34=>(match a2b t (f5 t i) with | .err c=>.err c | .ok v k=>.ok (.mk 4 0 v [] []) k)
   | 91=>(match d with | 0=>.err 12 | d+1=>jmk 5 (a6w (a7b t d) t false 93 (f5 t i+1)))
   | 123=>(match d with | 0=>.err 12 | d+1=>jmk 6 (a6w (a7b t d) t true 125 (f5 t i+1)))
   | _=>(match a5k t (f5 t i) with | .err c=>.err c | .ok n k=>.ok (.mk 3 n [] [] []) k))
  else .err 3
def b1y (t:Tx):JR LJson:=match a7b t 4 0 with
 | .err c=>.err c
 | .ok x k=>if f5 t k=t.length then .ok x t.length else .err 3
def S6:Nat→LJson→Prop
 | d,.mk k n t ns is=>(k=1∧n=0∧t=[]∧ns=[]∧is=[])∨(k=2∧(n=0∨n=1)∧t=[]∧ns=[]∧is=[])∨(k=3∧(-999999999≤n∧n≤999999999)∧t=[]∧ns=[]∧is=[]) ∨
  (k=4∧n=0∧t.length≤120∧ns=[]∧is=[]) ∨
  (n=0∧t=[]∧is.length≤12∧(k=5∧ns=[]∨k=6∧ns.length=is.length∧ns.Nodup∧∀ s∈ns,s.length≤120)∧match d with | 0=>False | d+1=>∀ x∈is,S6 d x)
def a4w (obj:Bool) (ns:List Tx) (xs:List LJson):Prop:=match obj with
 | false=>ns=[]
 | true=>ns.length=xs.length∧ns.Nodup∧∀ s∈ns,s.length≤120
theorem c13 {V:Nat→JR LJson} {t:Tx} {obj:Bool} {e:UInt8} {g:LJson→Prop} (hV:∀ i x k,V i=.ok x k→g x∧k≤t.length) :
 ∀ {n i:Nat} {ns:List Tx} {xs:List LJson} {v:List Tx×List LJson} {k:Nat},a4w obj ns xs→xs.length≤12→(∀ x∈xs,g x)→a34 V t obj e n i ns xs=.ok v k →
  a4w obj v.1 v.2∧v.2.length≤12∧(∀ x∈v.2,g x)∧k≤t.length:=by
 intro n
 induction n with
 | zero=>intro i ns xs v k _ _ _ h;cases h
 | succ n ih=>
  have item:∀ {p:Nat} {ns:List Tx} {xs:List LJson} {v:List Tx×List LJson} {k:Nat},(∀ x,a4w obj ns (xs++[x]))→xs.length≤12→(∀ x∈xs,g x)→a9t V t e (a34 V t obj e n) p ns xs=.ok v k →
   a4w obj v.1 v.2∧v.2.length≤12∧(∀ x∈v.2,g x)∧k≤t.length:=by
   intro p ns xs v k h1 h2 h3 h
   unfold a9t at h
   split at h
   · cases h
   · rename_i x k2 hx
     obtain ⟨g1,g2⟩:=hV _ _ _ hx
     have h3':∀ y∈xs++[x],g y:=fun y hy=>by
      rcases List.mem_append.1 hy with hy | hy
      · exact h3 y hy
      · rw [List.mem_singleton.1 hy];exact g1
     split at h
     · cases h
     · rename_i h12
       split at h
       · rename_i hh
         cases h
         exact ⟨h1 x,by simp;omega,h3',by omega⟩
       · split at h
         · exact ih (h1 x) (by simp;omega) h3' h
         · cases h
  intro i ns xs v k h1 h2 h3 h
  unfold a34 at h
  cases obj with
  | false=>exact item (fun x=>h1) h2 h3 h
  | true=>
   simp only [] at h
   split at h
   · cases h
   · rename_i nm k2 hq
     have hl:=(a1e hq).1
     split at h
     · cases h
     · rename_i hnm
       split at h
       · refine item (fun x=>?_) h2 h3 h
         obtain ⟨a1,a2,a3⟩:=h1
         refine ⟨by simp [a1],?_,fun s hs=>?_⟩
         · rw [List.nodup_append]
           refine ⟨a2,by simp,fun a ha b hb=>?_⟩
           rw [List.mem_singleton.1 hb]
           rintro rfl
           exact hnm ha
         · rcases List.mem_append.1 hs with hs | hs
           · exact a3 s hs
           · rw [List.mem_singleton.1 hs];exact hl
       · cases h
theorem b1z {V:Nat→JR LJson} {t:Tx} {obj:Bool} {e:UInt8} {g:LJson→Prop} (hV:∀ i x k,V i=.ok x k→g x∧k≤t.length) {i:Nat} {v:List Tx×List LJson} {k:Nat} (h:a6w V t obj e i=.ok v k) :
 a4w obj v.1 v.2∧v.2.length≤12∧(∀ x∈v.2,g x)∧k≤t.length:=by
 have h0:a4w obj [] []:=by cases obj<;>simp [a4w]
 unfold a6w at h
 split at h
 · cases h
   exact ⟨h0,by simp,by simp,by omega⟩
 · exact c13 hV h0 (by simp) (by simp) h
theorem b85 {k0:Int} {r:JR (List Tx×List LJson)} {x:LJson} {k:Nat} (h:jmk k0 r=.ok x k):∃ v,r=.ok v k∧x=.mk k0 0 [] v.1 v.2:=by
 cases r with
 | err c=>cases h
 | ok v i=>cases h;exact ⟨v,rfl,rfl⟩
theorem W8 {t w:Tx} {i:Nat} (h:O7 t w i=true):i+w.length≤t.length∨w=[]:=by
 unfold O7 at h
 have h:=of_decide_eq_true h
 have h1:=congrArg List.length h
 simp only [List.length_drop,List.length_take] at h1
 by_cases hw:w=[]
 · exact .inr hw
 · have:=List.length_pos_iff.2 hw
   left;omega
theorem c0v (t:Tx):∀ (d i:Nat) (x:LJson) (k:Nat),a7b t d i=.ok x k→S6 d x∧k≤t.length:=by
 intro d
 induction d with
 | zero=>
  intro i x k h
  unfold a7b at h
  split at h
  · rename_i hi
    split at h
    · split at h
      · rename_i hw;cases h;exact ⟨by simp [S6],by rcases W8 hw with h | h;exact h;cases h⟩
      · cases h
    · split at h
      · rename_i hw;cases h;exact ⟨by simp [S6],by rcases W8 hw with h | h;exact h;cases h⟩
      · cases h
    · split at h
      · rename_i hw;cases h;exact ⟨by simp [S6],by rcases W8 hw with h | h;exact h;cases h⟩
      · cases h
    · split at h
      · cases h
      · rename_i v k2 hq;cases h;exact ⟨by simp [S6,(a1e hq).1],(a1e hq).2.2⟩
    · cases h
    · cases h
    · split at h
      · cases h
      · rename_i n k2 hq
        cases h
        unfold a5k at hq
        split at hq
        · cases hq
        · split at hq
          · rename_i hn;cases hq;exact ⟨by simp [S6,hn],(a77 (Nat.le_of_lt hi)).2⟩
          · cases hq
  · cases h
 | succ d ih=>
  intro i x k h
  unfold a7b at h
  split at h
  · rename_i hi
    split at h
    · split at h
      · rename_i hw;cases h;exact ⟨by simp [S6],by rcases W8 hw with h | h;exact h;cases h⟩
      · cases h
    · split at h
      · rename_i hw;cases h;exact ⟨by simp [S6],by rcases W8 hw with h | h;exact h;cases h⟩
      · cases h
    · split at h
      · rename_i hw;cases h;exact ⟨by simp [S6],by rcases W8 hw with h | h;exact h;cases h⟩
      · cases h
    · split at h
      · cases h
      · rename_i v k2 hq;cases h;exact ⟨by simp [S6,(a1e hq).1],(a1e hq).2.2⟩
    · simp only [] at h
      obtain ⟨v,h1,rfl⟩:=b85 h
      obtain ⟨g1,g2,g3,g4⟩:=b1z ih h1
      exact ⟨.inr (.inr (.inr (.inr ⟨rfl,rfl,g2,.inl ⟨rfl,g1⟩,g3⟩))),g4⟩
    · simp only [] at h
      obtain ⟨v,h1,rfl⟩:=b85 h
      obtain ⟨g1,g2,g3,g4⟩:=b1z ih h1
      exact ⟨.inr (.inr (.inr (.inr ⟨rfl,rfl,g2,.inr ⟨rfl,g1⟩,g3⟩))),g4⟩
    · split at h
      · cases h
      · rename_i n k2 hq
        cases h
        unfold a5k at hq
        split at hq
        · cases hq
        · split at hq
          · rename_i hn;cases hq;exact ⟨by simp [S6,hn],(a77 (Nat.le_of_lt hi)).2⟩
          · cases hq
  · cases h
theorem c4f {t:Tx} {x:LJson} {k:Nat} (h:b1y t=.ok x k):S6 4 x:=by
 unfold b1y at h
 split at h
 · cases h
 · rename_i x' k' hx
   split at h
   · cases h;exact (c0v t 4 0 _ _ hx).1
   · cases h
end Go.KP
end
section
namespace Go.KP
def a3f (t:Tx) (i:Nat):Nat:=
 if i < t.length then match a3u (t.getD i 0) with
  | some _=>i+1
  | none=>if t.getD i 0=117∧i+5≤t.length∧t.getD (i+1) 0=48∧t.getD (i+2) 0=48 then i+5 else i+1
 else i
theorem c4j {t:Tx} {i:Nat} (h:i≤t.length):i≤a3f t i∧a3f t i≤t.length:=by
 unfold a3f
 split
 · split
   · omega
   · split<;>omega
 · omega
def Q7 (t:Tx) (i:Nat):Int×Nat×Int:=match a5k t i with
 | .ok n k=>(n,k,0)
 | .err e=>(0,i,e)
def a2y (t:Tx):Nat→Nat→Tx→Tx×Nat×Int
 | 0,i,_=>([],i,3)
 | n+1,i,out=>if i < t.length then
  (if t.getD i 0=34 then (out,i+1,if 120 < out.length then 8 else 0)
   else if t.getD i 0=92 then (match a81 t (i+1) with | some (b,k)=>a2y t n k (out++[b]) | none=>([],a3f t (i+1),3))
   else if 32≤(t.getD i 0).toNat∧(t.getD i 0).toNat≤126 then a2y t n (i+1) (out++[t.getD i 0]) else ([],i+1,3))
  else ([],i,3)
theorem b1v (t:Tx):∀ n i out,b45 t n i out=if (a2y t n i out).2.2=0 then .ok (a2y t n i out).1 (a2y t n i out).2.1 else .err (a2y t n i out).2.2
 | 0,i,out=>rfl
 | n+1,i,out=>by
  unfold b45 a2y
  split
  · split
    · by_cases h:120 < out.length<;>simp [h]
    · split
      · cases a81 t (i+1) with
        | some p=>exact b1v t n p.2 _
        | none=>rfl
      · split
        · exact b1v t n _ _
        · rfl
  · rfl
theorem b1u (t:Tx):∀ n i out,i≤t.length→(a2y t n i out).2.1≤t.length∧(a2y t n i out).1.length≤out.length+n
 | 0,i,out,h=>by simp [a2y,h]
 | n+1,i,out,h=>by
  unfold a2y
  split
  · split
    · simp;omega
    · split
      · cases hj:a81 t (i+1) with
        | some p=>
         have h1:=b47 (b:=p.1) (k:=p.2) hj
         have:=b1u t n p.2 (out++[p.1]) h1.2
         simp at this ⊢;omega
        | none=>
         have:=c4j (t:=t) (i:=i+1) (by omega)
         simp;omega
      · split
        · have:=b1u t n (i+1) (out++[t.getD i 0]) (by omega)
          simp at this ⊢;omega
        · simp;omega
  · simp [h]
def Q2 (t:Tx) (i:Nat):Tx×Nat×Int:=if i < t.length∧t.getD i 0=34 then a2y t (t.length+1) (i+1) [] else ([],i,3)
theorem b3s (t:Tx) (i:Nat):a2b t i=if (Q2 t i).2.2=0 then .ok (Q2 t i).1 (Q2 t i).2.1 else .err (Q2 t i).2.2:=by
 unfold a2b Q2
 split
 · exact b1v t _ _ _
 · rfl
theorem a4i (t:Tx) (i:Nat) (h:i≤t.length):(Q2 t i).2.1≤t.length∧(Q2 t i).1.length≤t.length+1:=by
 unfold Q2
 split
 · have:=b1u t (t.length+1) (i+1) [] (by omega)
   simp at this;omega
 · simp [h]
abbrev VR:=LJson×Nat×Int
def a7z (r:VR):JR LJson:=if r.2.2=0 then .ok r.1 r.2.1 else .err r.2.2
abbrev IR:=List Tx×List LJson×Nat×Int
def b6i (r:IR):JR (List Tx×List LJson):=if r.2.2.2=0 then .ok (r.1,r.2.1) r.2.2.1 else .err r.2.2.2
def a3e (g:Nat→VR) (t:Tx) (e:UInt8) (K:Nat→List Tx→List LJson→IR) (k:Nat) (ns:List Tx) (xs:List LJson):IR:=
 if (g k).2.2≠0 then (ns,xs++[(g k).1],f5 t (g k).2.1,(g k).2.2)
 else if 12 < xs.length+1 then (ns,xs++[(g k).1],f5 t (g k).2.1,6)
 else if f5 t (g k).2.1 < t.length∧t.getD (f5 t (g k).2.1) 0=e then (ns,xs++[(g k).1],f5 t (g k).2.1+1,0)
 else if f5 t (g k).2.1 < t.length∧t.getD (f5 t (g k).2.1) 0=44 then K (f5 t (g k).2.1+1) ns (xs++[(g k).1])
 else (ns,xs++[(g k).1],f5 t (g k).2.1,3)
def a0e (g:Nat→VR) (t:Tx) (obj:Bool) (e:UInt8):Nat→Nat→List Tx→List LJson→IR
 | 0,i,ns,xs=>(ns,xs,i,6)
 | n+1,i,ns,xs=>match obj with
  | false=>a3e g t e (a0e g t obj e n) (f5 t i) ns xs
  | true=>
   if (Q2 t (f5 t i)).2.2≠0 then (ns++[(Q2 t (f5 t i)).1],xs,f5 t (Q2 t (f5 t i)).2.1,(Q2 t (f5 t i)).2.2)
   else if (Q2 t (f5 t i)).1∈ns then (ns++[(Q2 t (f5 t i)).1],xs,f5 t (Q2 t (f5 t i)).2.1,13)
   else if f5 t (Q2 t (f5 t i)).2.1 < t.length∧t.getD (f5 t (Q2 t (f5 t i)).2.1) 0=58 then a3e g t e (a0e g t obj e n) (f5 t (Q2 t (f5 t i)).2.1+1) (ns++[(Q2 t (f5 t i)).1]) xs
   else (ns++[(Q2 t (f5 t i)).1],xs,f5 t (Q2 t (f5 t i)).2.1,3)
def a2v (g:Nat→VR) (t:Tx) (obj:Bool) (e:UInt8) (i:Nat):IR:=
 if f5 t i < t.length∧t.getD (f5 t i) 0=e then ([],[],f5 t i+1,0) else a0e g t obj e 13 (f5 t i) [] []
theorem c0y {V:Nat→JR LJson} {g:Nat→VR} {t:Tx} {e:UInt8} {K:Nat→List Tx→List LJson→JR (List Tx×List LJson)} {K':Nat→List Tx→List LJson→IR} (k:Nat) (hV:V k=a7z (g k)) (hK:∀ i ns xs,i≤t.length→K i ns xs=b6i (K' i ns xs)) (ns:List Tx) (xs:List LJson) :
 a9t V t e K k ns xs=b6i (a3e g t e K' k ns xs):=by
 unfold a9t a3e
 rw [hV]
 unfold a7z
 by_cases h0:(g k).2.2=0
 · simp only [h0,if_true,ne_eq,not_true,if_false]
   split
   · rfl
   · split
     · rfl
     · split
       · rename_i h;exact hK _ _ _ (by omega)
       · rfl
 · simp only [h0,if_false,ne_eq,not_false_eq_true,if_true]
   unfold b6i
   simp only [h0,if_false]
theorem b1x {V:Nat→JR LJson} {g:Nat→VR} {t:Tx} {obj:Bool} {e:UInt8} (hV:∀ k,k≤t.length→V k=a7z (g k)):∀ (n i:Nat) (ns:List Tx) (xs:List LJson),i≤t.length→a34 V t obj e n i ns xs=b6i (a0e g t obj e n i ns xs)
 | 0,i,ns,xs,_=>rfl
 | n+1,i,ns,xs,hi=>by
  unfold a34 a0e
  have h1:=S4 hi
  cases obj with
  | false=>exact c0y _ (hV _ h1) (fun i ns xs hi=>b1x hV n i ns xs hi) _ _
  | true=>
   simp only []
   have h2:=(a4i t _ h1).1
   have h3:=S4 h2
   rw [b3s]
   by_cases h0:(Q2 t (f5 t i)).2.2=0
   · simp only [h0,if_true,ne_eq,not_true,if_false]
     split
     · rfl
     · split
       · rename_i h;exact c0y _ (hV _ (by omega)) (fun i ns xs hi=>b1x hV n i ns xs hi) _ _
       · rfl
   · simp only [h0,if_false,ne_eq,not_false_eq_true,if_true]
     unfold b6i
     simp only [h0,if_false]
theorem jlist_R {V:Nat→JR LJson} {g:Nat→VR} {t:Tx} {obj:Bool} {e:UInt8} (hV:∀ k,k≤t.length→V k=a7z (g k)) {i:Nat} (hi:i≤t.length):a6w V t obj e i=b6i (a2v g t obj e i):=by
 unfold a6w a2v
 split
 · rfl
 · exact b1x hV _ _ _ _ (S4 hi)
theorem b3x {g:Nat→VR} {t:Tx} {e:UInt8} {K':Nat→List Tx→List LJson→IR} (k:Nat) (hg:(g k).2.1≤t.length) (hK:∀ i ns xs,i≤t.length→(K' i ns xs).2.2.1≤t.length) (ns:List Tx) (xs:List LJson):(a3e g t e K' k ns xs).2.2.1≤t.length:=by
 have:=S4 hg
 unfold a3e
 split
 · exact this
 · split
   · exact this
   · split
     · simp only [];omega
     · split
       · exact hK _ _ _ (by omega)
       · exact this
theorem a7c {g:Nat→VR} {t:Tx} {obj:Bool} {e:UInt8} (hg:∀ k,k≤t.length→(g k).2.1≤t.length):∀ (n i:Nat) (ns:List Tx) (xs:List LJson),i≤t.length→(a0e g t obj e n i ns xs).2.2.1≤t.length
 | 0,i,ns,xs,h=>h
 | n+1,i,ns,xs,hi=>by
  unfold a0e
  have h1:=S4 hi
  cases obj with
  | false=>exact b3x _ (hg _ h1) (fun i ns xs hi=>a7c hg n i ns xs hi) _ _
  | true=>
   simp only []
   have h2:=(a4i t _ h1).1
   have h3:=S4 h2
   split
   · exact h3
   · split
     · exact h3
     · split
       · exact b3x _ (hg _ (by omega)) (fun i ns xs hi=>a7c hg n i ns xs hi) _ _
       · exact h3
theorem b3w {g:Nat→VR} {t:Tx} {obj:Bool} {e:UInt8} (hg:∀ k,k≤t.length→(g k).2.1≤t.length) {i:Nat} (hi:i≤t.length):(a2v g t obj e i).2.2.1≤t.length:=by
 unfold a2v
 split
 · simp only [];omega
 · exact a7c hg _ _ _ _ (S4 hi)
def Y7 (g:Nat→VR) (t:Tx) (e:UInt8) (k n:Nat):Bool×Nat×Int:=
 if (g k).2.2≠0 then (false,f5 t (g k).2.1,(g k).2.2)
 else if 12 < n+1 then (false,f5 t (g k).2.1,6)
 else if f5 t (g k).2.1 < t.length∧t.getD (f5 t (g k).2.1) 0=e then (true,f5 t (g k).2.1+1,0)
 else if f5 t (g k).2.1 < t.length∧t.getD (f5 t (g k).2.1) 0=44 then (false,f5 t (g k).2.1+1,0)
 else (false,f5 t (g k).2.1,3)
theorem c4i (g:Nat→VR) (t:Tx) (e:UInt8) (K:Nat→List Tx→List LJson→IR) (k:Nat) (ns:List Tx) (xs:List LJson) :
 a3e g t e K k ns xs=if (Y7 g t e k xs.length).1=false∧(Y7 g t e k xs.length).2.2=0 then K (Y7 g t e k xs.length).2.1 ns (xs++[(g k).1]) else (ns,xs++[(g k).1],(Y7 g t e k xs.length).2):=by
 unfold a3e Y7
 split
 · rename_i h;simp [h]
 · split
   · simp
   · split
     · simp
     · split<;>simp
def a35 (t:Tx) (k:Nat) (ns:List Tx):Nat×Int:=
 if (Q2 t k).2.2≠0 then (f5 t (Q2 t k).2.1,(Q2 t k).2.2)
 else if (Q2 t k).1∈ns then (f5 t (Q2 t k).2.1,13)
 else if f5 t (Q2 t k).2.1 < t.length∧t.getD (f5 t (Q2 t k).2.1) 0=58 then (f5 t (Q2 t k).2.1+1,0)
 else (f5 t (Q2 t k).2.1,3)
theorem c14 (g:Nat→VR) (t:Tx) (obj:Bool) (e:UInt8) (n i:Nat) (ns:List Tx) (xs:List LJson):a0e g t obj e (n+1) i ns xs=match obj with
 | false=>a3e g t e (a0e g t obj e n) (f5 t i) ns xs
 | true=>if (a35 t (f5 t i) ns).2=0 then a3e g t e (a0e g t obj e n) (a35 t (f5 t i) ns).1 (ns++[(Q2 t (f5 t i)).1]) xs else (ns++[(Q2 t (f5 t i)).1],xs,a35 t (f5 t i) ns):=by
 conv=>lhs;unfold a0e
 cases obj with
 | false=>rfl
 | true=>
  simp only []
  unfold a35
  split
  · rename_i h;simp [h]
  · split
    · simp
    · split<;>simp
theorem c18 {g:Nat→VR} {t:Tx} {e:UInt8} {k n:Nat} (hg:(g k).2.1≤t.length):(Y7 g t e k n).2.1≤t.length:=by
 have:=S4 hg
 unfold Y7
 split
 · exact this
 · split
   · exact this
   · split
     · simp only [];omega
     · split
       · simp only [];omega
       · exact this
theorem c15 {t:Tx} {k:Nat} {ns:List Tx} (h:k≤t.length):(a35 t k ns).1≤t.length:=by
 have:=S4 (a4i t k h).1
 unfold a35
 split
 · exact this
 · split
   · exact this
   · split
     · simp only [];omega
     · exact this
theorem b46 {g:Nat→VR} {t:Tx} {e:UInt8} {k n:Nat} (h:(Y7 g t e k n).2.2=0):n+1≤12:=by
 unfold Y7 at h
 split at h
 · rename_i h1;exact absurd h h1
 · split at h
   · simp at h
   · omega
def b3f (t:Tx) (L:Bool→Nat→IR) (i:Nat):VR:=if f5 t i < t.length then
 (match t.getD (f5 t i) 0 with
  | 110=>if O7 t jnull (f5 t i) then (.mk 1 0 [] [] [],f5 t i+4,0) else (.mk 1 0 [] [] [],f5 t i,3)
  | 116=>if O7 t jtrue (f5 t i) then (.mk 2 1 [] [] [],f5 t i+4,0) else (.mk 2 1 [] [] [],f5 t i,3)
  | 102=>if O7 t jfalse (f5 t i) then (.mk 2 0 [] [] [],f5 t i+5,0) else (.mk 2 0 [] [] [],f5 t i,3)
  | 34=>(.mk 4 0 (Q2 t (f5 t i)).1 [] [],(Q2 t (f5 t i)).2.1,(Q2 t (f5 t i)).2.2)
  | 91=>(.mk 5 0 [] (L false (f5 t i)).1 (L false (f5 t i)).2.1,(L false (f5 t i)).2.2.1,(L false (f5 t i)).2.2.2)
  | 123=>(.mk 6 0 [] (L true (f5 t i)).1 (L true (f5 t i)).2.1,(L true (f5 t i)).2.2.1,(L true (f5 t i)).2.2.2)
  | _=>(.mk 3 (Q7 t (f5 t i)).1 [] [] [],(Q7 t (f5 t i)).2.1,(Q7 t (f5 t i)).2.2))
 else (.mk 0 0 [] [] [],f5 t i,3)
def b9v (obj:Bool):UInt8:=if obj then 125 else 93
def L0 (obj:Bool) (i:Nat):IR:=([],[],i,12)
def L1 (g:Nat→VR) (t:Tx) (obj:Bool) (i:Nat):IR:=a2v g t obj (b9v obj) (i+1)
def a4k (t:Tx):Nat→Nat→VR
 | 0=>b3f t L0
 | d+1=>b3f t (L1 (a4k t d) t)
theorem b83 (t:Tx) (i:Nat):a5k t i=if (Q7 t i).2.2=0 then .ok (Q7 t i).1 (Q7 t i).2.1 else .err (Q7 t i).2.2:=by
 unfold Q7
 cases h:a5k t i with
 | ok n k=>simp
 | err e=>
  have he:e≠0:=by
   unfold a5k at h
   split at h
   · cases h;decide
   · split at h
     · cases h
     · cases h;decide
  simp [he]
theorem b84 {t:Tx} {i:Nat} (h:i≤t.length):(Q7 t i).2.1≤t.length:=by
 unfold Q7
 cases hj:a5k t i with
 | ok n k=>
  unfold a5k at hj
  split at hj
  · cases hj
  · split at hj
    · cases hj;exact (a77 h).2
    · cases hj
 | err e=>exact h
theorem b5j {t:Tx} {L:Bool→Nat→IR} (hL:∀ o k,k < t.length→(L o k).2.2.1≤t.length) {i:Nat} (hi:i≤t.length):(b3f t L i).2.1≤t.length:=by
 have h1:=S4 hi
 unfold b3f
 split
 · rename_i hlt
   split
   · split
     · rename_i hw
       have:=W8 hw
       have e:jnull.length=4:=rfl
       simp only []
       rcases this with h | h
       · omega
       · cases h
     · exact h1
   · split
     · rename_i hw
       have:=W8 hw
       have e:jtrue.length=4:=rfl
       simp only []
       rcases this with h | h
       · omega
       · cases h
     · exact h1
   · split
     · rename_i hw
       have:=W8 hw
       have e:jfalse.length=5:=rfl
       simp only []
       rcases this with h | h
       · omega
       · cases h
     · exact h1
   · exact (a4i t _ h1).1
   · exact hL _ _ hlt
   · exact hL _ _ hlt
   · exact b84 h1
 · exact h1
theorem b7f (t:Tx):∀ d i,i≤t.length→(a4k t d i).2.1≤t.length
 | 0,i,hi=>b5j (fun o k hk=>Nat.le_of_lt hk) hi
 | d+1,i,hi=>b5j (fun o k hk=>b3w (fun k hk=>b7f t d k hk) hk) hi
def c0x (t:Tx) (d:Nat) (o:Bool) (k:Nat):JR LJson:=match d with
 | 0=>.err 12
 | d'+1=>jmk (if o then 6 else 5) (a6w (a7b t d') t o (b9v o) (k+1))
theorem jmk_of (k:Int) (r:IR):jmk k (b6i r)=a7z (.mk k 0 [] r.1 r.2.1,r.2.2.1,r.2.2.2):=by
 unfold b6i a7z
 by_cases h:r.2.2.2=0
 · rw [if_pos h,if_pos h];rfl
 · rw [if_neg h,if_neg h];rfl
theorem c12 (t:Tx) (d i:Nat):a7b t d i=if f5 t i < t.length then
 (match t.getD (f5 t i) 0 with
  | 110=>if O7 t jnull (f5 t i) then .ok (.mk 1 0 [] [] []) (f5 t i+4) else .err 3
  | 116=>if O7 t jtrue (f5 t i) then .ok (.mk 2 1 [] [] []) (f5 t i+4) else .err 3
  | 102=>if O7 t jfalse (f5 t i) then .ok (.mk 2 0 [] [] []) (f5 t i+5) else .err 3
  | 34=>(match a2b t (f5 t i) with | .err c=>.err c | .ok v k=>.ok (.mk 4 0 v [] []) k)
  | 91=>c0x t d false (f5 t i)
  | 123=>c0x t d true (f5 t i)
  | _=>(match a5k t (f5 t i) with | .err c=>.err c | .ok n k=>.ok (.mk 3 n [] [] []) k))
 else .err 3:=by
 cases d<;>(conv=>lhs;unfold a7b)<;>rfl
theorem c4e (t:Tx) (k:Nat):(match a2b t k with | .err c=>.err c | .ok v k=>.ok (.mk 4 0 v [] []) k)=a7z (.mk 4 0 (Q2 t k).1 [] [],(Q2 t k).2.1,(Q2 t k).2.2):=by
 rw [b3s]
 unfold a7z
 by_cases h:(Q2 t k).2.2=0
 · simp [h]
 · simp [h]
theorem c4g (t:Tx) (k:Nat):(match a5k t k with | .err c=>.err c | .ok n k=>.ok (.mk 3 n [] [] []) k)=a7z (.mk 3 (Q7 t k).1 [] [] [],(Q7 t k).2.1,(Q7 t k).2.2):=by
 rw [b83]
 unfold a7z
 by_cases h:(Q7 t k).2.2=0
 · simp [h]
 · simp [h]
theorem c06 {t:Tx} {L:Bool→Nat→IR} {d i:Nat} (hn:∀ o k,k < t.length→c0x t d o k=a7z (.mk (if o then 6 else 5) 0 [] (L o k).1 (L o k).2.1,(L o k).2.2.1,(L o k).2.2.2)):a7b t d i=a7z (b3f t L i):=by
 rw [c12]
 unfold b3f
 split
 · rename_i hlt
   split
   · split<;>rfl
   · split<;>rfl
   · split<;>rfl
   · exact c4e t _
   · exact hn false _ hlt
   · exact hn true _ hlt
   · exact c4g t _
 · rfl
theorem b7e (t:Tx):∀ d i,i≤t.length→a7b t d i=a7z (a4k t d i)
 | 0,i,hi=>c06 fun o k hk=>rfl
 | d+1,i,hi=>c06 fun o k hk=>by
  unfold c0x
  simp only []
  rw [jlist_R (fun k hk=>b7e t d k hk) hk]
  exact jmk_of _ _
def a0a (t:Tx):LJson×Int:=match b1y t with
 | .ok x _=>(x,0)
 | .err c=>(.mk 0 0 [] [] [],c)
theorem c1n (t:Tx):a0a t=if (a4k t 4 0).2.2=0 then (if f5 t (a4k t 4 0).2.1=t.length then ((a4k t 4 0).1,0) else (.mk 0 0 [] [] [],3)) else (.mk 0 0 [] [] [],(a4k t 4 0).2.2):=by
 unfold a0a b1y
 rw [b7e t 4 0 (Nat.zero_le _)]
 unfold a7z
 by_cases h:(a4k t 4 0).2.2=0
 · rw [if_pos h,if_pos h]
   simp only []
   by_cases h2:f5 t (a4k t 4 0).2.1=t.length
   · rw [if_pos h2,if_pos h2]
   · rw [if_neg h2,if_neg h2]
 · rw [if_neg h,if_neg h]
end Go.KP
end
section
namespace Go.KP
inductive JZ (α:Type) where
 | err (c:Int) (z:Nat)
 | ok (v:α) (i:Nat)
def JZ.jr {α:Type}:JZ α→JR α
 | .err c _=>.err c
 | .ok v i=>.ok v i
theorem a1q (t w:Tx) (i:Nat):w.isPrefixOf (t.drop i)=O7 t w i:=by
 unfold O7
 rw [Bool.eq_iff_iff,decide_eq_true_eq,List.isPrefixOf_iff_prefix,List.prefix_iff_eq_take,List.take_drop]
 exact eq_comm
theorem a8y (t:Tx) (c:UInt8) (i:Nat):O7 t [c] i=decide (i < t.length∧t.getD i 0=c):=by
 rw [← a1q,Bool.eq_iff_iff,decide_eq_true_eq,List.isPrefixOf_iff_prefix]
 by_cases h:i < t.length
 · rw [List.drop_eq_getElem_cons h,List.cons_prefix_cons]
   have e:t.getD i 0=t[i]:=by simp [h]
   rw [e]
   constructor
   · rintro ⟨e,_⟩;exact ⟨h,e.symm⟩
   · rintro ⟨_,e⟩;exact ⟨e.symm,List.nil_prefix⟩
 · rw [List.drop_eq_nil_of_le (by omega)]
   constructor
   · intro hp
     have:=hp.length_le
     simp at this
   · rintro ⟨h1,_⟩;exact absurd h1 h
theorem a1d {t:Tx} {c:UInt8} {w:Tx} {i:Nat} (h:O7 t (c :: w) i=true):i < t.length∧t.getD i 0=c:=by
 rw [← a1q,List.isPrefixOf_iff_prefix] at h
 by_cases hi:i < t.length
 · rw [List.drop_eq_getElem_cons hi,List.cons_prefix_cons] at h
   exact ⟨hi,by simp [hi,h.1]⟩
 · rw [List.drop_eq_nil_of_le (by omega)] at h
   have:=h.length_le
   simp at this
def a2t (t:Tx) (i:Nat):JZ Nat:=if i < t.length then (match a3i (t.getD i 0) with | some n=>.ok n (i+1) | none=>.err 3 (i+1)) else .err 3 i
def c3u (t:Tx) (i:Nat):JZ UInt8:=if i < t.length then (match a3u (t.getD i 0) with
 | some b=>.ok b (i+1)
 | none=>if t.getD i 0=117 then (if O7 t [48,48] (i+1) then (match a2t t (i+3) with
  | .err c z=>.err c z
  | .ok a k=>match a2t t k with
   | .err c z=>.err c z
   | .ok b k=>.ok (UInt8.ofNat (16*a+b)) k)
  else .err 3 (i+1)) else .err 3 (i+1))
 else .err 3 i
theorem a56 {t:Tx} {i a k:Nat} (h:a2t t i=.ok a k):i < t.length∧k=i+1∧a3i (t.getD i 0)=some a:=by
 unfold a2t at h
 split at h
 · rename_i hi
   split at h
   · rename_i n hn;cases h;exact ⟨hi,rfl,hn⟩
   · cases h
 · cases h
theorem b1f {t:Tx} {i:Nat} {c:Int} {z:Nat} (h:a2t t i=.err c z):c=3∧(i < t.length→a3i (t.getD i 0)=none):=by
 unfold a2t at h
 split at h
 · split at h
   · cases h
   · rename_i hn;cases h;exact ⟨rfl,fun _=>hn⟩
 · rename_i hi;cases h;exact ⟨rfl,fun h=>absurd h hi⟩
theorem b1t (t:Tx) (i:Nat):O7 t [48,48] i=true↔i+1 < t.length∧t.getD i 0=48∧t.getD (i+1) 0=48:=by
 rw [← a1q,List.isPrefixOf_iff_prefix]
 by_cases h:i+1 < t.length
 · rw [List.drop_eq_getElem_cons (by omega:i < t.length),List.drop_eq_getElem_cons h,List.cons_prefix_cons,List.cons_prefix_cons]
   have e:t.getD i 0=t[i]:=by simp [show i < t.length by omega]
   have e2:t.getD (i+1) 0=t[i+1]:=by simp [h]
   rw [e,e2]
   constructor
   · rintro ⟨e,e',_⟩;exact ⟨h,e.symm,e'.symm⟩
   · rintro ⟨_,e,e'⟩;exact ⟨e.symm,e'.symm,List.nil_prefix⟩
 · constructor
   · intro hp
     have:=hp.length_le
     simp at this;omega
   · rintro ⟨h1,_⟩;exact absurd h1 h
theorem c1p (t:Tx) (i:Nat):match c3u t i with | .ok b k=>a81 t i=some (b,k) | .err c _=>c=3∧a81 t i=none:=by
 unfold c3u a81
 by_cases hi:i < t.length
 · rw [if_pos hi,if_pos hi]
   cases h1:a3u (t.getD i 0) with
   | some b=>simp only []
   | none=>
    simp only []
    by_cases hu:t.getD i 0=117
    · rw [if_pos hu]
      by_cases hw:O7 t [48,48] (i+1)=true
      · rw [if_pos hw]
        obtain ⟨w1,w2,w3⟩:=(b1t _ _).1 hw
        cases ha:a2t t (i+3) with
        | err c z=>
         obtain ⟨e1,e2⟩:=b1f ha
         simp only []
         refine ⟨e1,?_⟩
         by_cases hc:t.getD i 0=117∧i+5≤t.length∧t.getD (i+1) 0=48∧t.getD (i+2) 0=48
         · rw [if_pos hc,e2 (by omega)]
         · rw [if_neg hc]
        | ok a k=>
         obtain ⟨a1,rfl,a3⟩:=a56 ha
         simp only []
         cases hb:a2t t (i+3+1) with
         | err c z=>
          obtain ⟨e1,e2⟩:=b1f hb
          simp only []
          refine ⟨e1,?_⟩
          by_cases hc:t.getD i 0=117∧i+5≤t.length∧t.getD (i+1) 0=48∧t.getD (i+2) 0=48
          · rw [if_pos hc,a3,e2 (by omega)]
          · rw [if_neg hc]
         | ok b k=>
          obtain ⟨b1,rfl,b3⟩:=a56 hb
          simp only []
          rw [if_pos ⟨hu,by omega,w2,w3⟩,a3,b3]
      · rw [if_neg hw]
        refine ⟨rfl,?_⟩
        rw [if_neg]
        rintro ⟨_,c1,c2,c3⟩
        exact hw ((b1t _ _).2 ⟨by omega,c2,c3⟩)
    · rw [if_neg hu]
      exact ⟨rfl,by rw [if_neg fun h=>hu h.1]⟩
 · rw [if_neg hi,if_neg hi];exact ⟨rfl,rfl⟩
def b21 (t:Tx):Nat→Nat→Tx→JZ Tx
 | 0,i,_=>.err 3 i
 | n+1,i,out=>if i < t.length then
  (if t.getD i 0=34 then (if 120 < out.length then .err 8 (i+1) else .ok out (i+1))
   else if t.getD i 0=92 then (match c3u t (i+1) with | .ok b k=>b21 t n k (out++[b]) | .err c z=>.err c z)
   else if 32≤(t.getD i 0).toNat∧(t.getD i 0).toNat≤126 then b21 t n (i+1) (out++[t.getD i 0]) else .err 3 (i+1))
  else .err 3 i
theorem b4k (t:Tx):∀ n i out,(b21 t n i out).jr=b45 t n i out
 | 0,i,out=>rfl
 | n+1,i,out=>by
  unfold b21 b45
  by_cases hi:i < t.length
  · rw [if_pos hi,if_pos hi]
    by_cases h34:t.getD i 0=34
    · rw [if_pos h34,if_pos h34]
      by_cases h120:120 < out.length
      · rw [if_pos h120,if_pos h120];rfl
      · rw [if_neg h120,if_neg h120];rfl
    · rw [if_neg h34,if_neg h34]
      by_cases h92:t.getD i 0=92
      · rw [if_pos h92,if_pos h92]
        have he:=c1p t (i+1)
        cases hp:c3u t (i+1) with
        | err c z=>rw [hp] at he;simp only [] at he;rw [he.2,he.1];rfl
        | ok b k=>rw [hp] at he;simp only [] at he;rw [he];exact b4k t n k _
      · rw [if_neg h92,if_neg h92]
        by_cases hr:32≤(t.getD i 0).toNat∧(t.getD i 0).toNat≤126
        · rw [if_pos hr,if_pos hr];exact b4k t n _ _
        · rw [if_neg hr,if_neg hr];rfl
  · rw [if_neg hi,if_neg hi];rfl
def a0u (t:Tx) (i:Nat):JZ Tx:=if O7 t [34] i then b21 t (t.length+1) (i+1) [] else .err 3 i
theorem a4s (t:Tx) (i:Nat):(a0u t i).jr=a2b t i:=by
 unfold a0u a2b
 rw [a8y]
 by_cases h:i < t.length∧t.getD i 0=34
 · rw [if_pos h,if_pos (decide_eq_true h)];exact b4k t _ _ _
 · rw [if_neg h,if_neg (by rw [decide_eq_false h];exact Bool.false_ne_true)];rfl
def b22 (t:Tx) (i:Nat):JZ Int:=match U4 ((t.take (a1z t i)).drop i) with
 | none=>.err 3 (a1z t i)
 | some n=>if -999999999≤n∧n≤999999999 then .ok n (a1z t i) else .err 4 (a1z t i)
theorem a7u (t:Tx) (i:Nat):(b22 t i).jr=a5k t i:=by
 unfold b22 a5k
 cases U4 ((t.take (a1z t i)).drop i) with
 | none=>rfl
 | some n=>
  simp only []
  split<;>rfl
def b3o (V:Nat→JZ LJson) (t:Tx) (e:UInt8) (K:Nat→List Tx→List LJson→JZ (List Tx×List LJson)) (k:Nat) (ns:List Tx) (xs:List LJson):JZ (List Tx×List LJson):=match V k with
 | .err c z=>.err c z
 | .ok x k=>if 12 < xs.length+1 then .err 6 k else
  if O7 t [e] (f5 t k) then .ok (ns,xs++[x]) (f5 t k+1)
  else if O7 t [44] (f5 t k) then K (f5 t k+1) ns (xs++[x]) else .err 3 (f5 t k)
def a9m (t:Tx) (i:Nat) (ns:List Tx):JZ Tx:=match a0u t i with
 | .err c z=>.err c z
 | .ok nm k=>if nm∈ns then .err 13 k else if O7 t [58] (f5 t k) then .ok nm (f5 t k+1) else .err 3 (f5 t k)
def a67 (V:Nat→JZ LJson) (t:Tx) (obj:Bool) (e:UInt8):Nat→Nat→List Tx→List LJson→JZ (List Tx×List LJson)
 | 0,i,_,_=>.err 6 i
 | n+1,i,ns,xs=>match obj with
  | false=>b3o V t e (a67 V t obj e n) (f5 t i) ns xs
  | true=>match a9m t (f5 t i) ns with
   | .err c z=>.err c z
   | .ok nm k=>b3o V t e (a67 V t obj e n) k (ns++[nm]) xs
def a9n (V:Nat→JZ LJson) (t:Tx) (obj:Bool) (e:UInt8) (i:Nat):JZ (List Tx×List LJson):=
 if O7 t [e] (f5 t i) then .ok ([],[]) (f5 t i+1) else a67 V t obj e 13 (f5 t i) [] []
def pmk (k:Int):JZ (List Tx×List LJson)→JZ LJson
 | .err c z=>.err c z
 | .ok v i=>.ok (.mk k 0 [] v.1 v.2) i
theorem a6g {α:Type} (t:Tx) (e:UInt8) (i:Nat) (a b:α):(if O7 t [e] i=true then a else b)=if i < t.length∧t.getD i 0=e then a else b:=by
 rw [a8y]
 by_cases h:i < t.length∧t.getD i 0=e
 · rw [if_pos h,if_pos (decide_eq_true h)]
 · rw [if_neg h,if_neg (by rw [decide_eq_false h];exact Bool.false_ne_true)]
theorem b6d {V:Nat→JZ LJson} {W:Nat→JR LJson} (hV:∀ i,(V i).jr=W i) {t:Tx} {e:UInt8} {K:Nat→List Tx→List LJson→JZ (List Tx×List LJson)} {K':Nat→List Tx→List LJson→JR (List Tx×List LJson)} (hK:∀ i ns xs,(K i ns xs).jr=K' i ns xs) (k:Nat) (ns:List Tx) (xs:List LJson) :
 (b3o V t e K k ns xs).jr=a9t W t e K' k ns xs:=by
 unfold b3o a9t
 rw [← hV]
 cases V k with
 | err c z=>rfl
 | ok x k=>
  have hr:∀ (p:Prop) [Decidable p] (a b:JZ (List Tx×List LJson)),(if p then a else b).jr=if p then a.jr else b.jr:=fun p _ a b=>by split<;>rfl
  simp only [a6g,hr,hK]
  rfl
theorem a8o {V:Nat→JZ LJson} {W:Nat→JR LJson} (hV:∀ i,(V i).jr=W i) (t:Tx) (obj:Bool) (e:UInt8):∀ n i ns xs,(a67 V t obj e n i ns xs).jr=a34 W t obj e n i ns xs
 | 0,i,ns,xs=>rfl
 | n+1,i,ns,xs=>by
  unfold a67 a34
  cases obj with
  | false=>exact b6d hV (a8o hV t false e n) _ _ _
  | true=>
   simp only []
   unfold a9m
   rw [← a4s]
   cases a0u t (f5 t i) with
   | err c z=>rfl
   | ok nm k=>
    have hr:∀ (p:Prop) [Decidable p] (a b:JZ Tx),(if p then a else b).jr=if p then a.jr else b.jr:=fun p _ a b=>by split<;>rfl
    simp only [a6g]
    show JZ.jr _=if nm∈ns then _ else _
    by_cases hm:nm∈ns
    · rw [if_pos hm,if_pos hm];rfl
    · rw [if_neg hm,if_neg hm]
      by_cases h5:f5 t k < t.length∧t.getD (f5 t k) 0=58
      · rw [if_pos h5,if_pos h5]
        exact b6d hV (a8o hV t true e n) _ _ _
      · rw [if_neg h5,if_neg h5];rfl
theorem b6b {V:Nat→JZ LJson} {W:Nat→JR LJson} (hV:∀ i,(V i).jr=W i) (t:Tx) (obj:Bool) (e:UInt8) (i:Nat):(a9n V t obj e i).jr=a6w W t obj e i:=by
 unfold a9n a6w
 rw [a6g]
 split
 · rfl
 · exact a8o hV t obj e _ _ _ _
theorem b8k (k:Int) (r:JZ (List Tx×List LJson)):(pmk k r).jr=jmk k r.jr:=by cases r<;>rfl
def a66 (t:Tx):Nat→Nat→JZ LJson
 | d,i=>if O7 t jnull (f5 t i) then .ok (.mk 1 0 [] [] []) (f5 t i+4)
  else if O7 t jtrue (f5 t i) then .ok (.mk 2 1 [] [] []) (f5 t i+4)
  else if O7 t jfalse (f5 t i) then .ok (.mk 2 0 [] [] []) (f5 t i+5)
  else if O7 t [91] (f5 t i) then (match d with | 0=>.err 12 (f5 t i+1) | d+1=>pmk 5 (a9n (a66 t d) t false 93 (f5 t i+1)))
  else if O7 t [123] (f5 t i) then (match d with | 0=>.err 12 (f5 t i+1) | d+1=>pmk 6 (a9n (a66 t d) t true 125 (f5 t i+1)))
  else if O7 t [34] (f5 t i) then (match a0u t (f5 t i) with | .err c z=>.err c z | .ok v k=>.ok (.mk 4 0 v [] []) k)
  else (match b22 t (f5 t i) with | .err c z=>.err c z | .ok n k=>.ok (.mk 3 n [] [] []) k)
theorem c0w {t:Tx} {i:Nat} (h:i < t.length→t.getD i 0≠45∧P8 (t.getD i 0)=false):a5k t i=.err 3:=by
 have hs:a2j t i=i:=by
  unfold a2j
  rw [if_neg]
  rintro ⟨h1,h2⟩
  exact (h h1).1 h2
 have he:a1z t i=i:=by
  unfold a1z
  rw [hs]
  by_cases hi:i < t.length
  · have h2:=(h hi).2
    have e:t.getD i 0=t[i]:=by simp [hi]
    rw [e] at h2
    exact b11 hi h2
  · exact a82 (by omega)
 unfold a5k
 rw [he,show (t.take i).drop i=[] from List.drop_eq_nil_of_le (by simp;omega)]
 rfl
theorem b6w {t:Tx} {c x:UInt8} {w:Tx} {i:Nat} (hx:t.getD i 0=x) (h:x≠c):O7 t (c :: w) i=false:=by
 cases hj:O7 t (c :: w) i with
 | false=>rfl
 | true=>exact absurd (hx ▸ (a1d hj).2) h
theorem c0k (t:Tx):∀ d i,(a66 t d i).jr=a7b t d i:=by
 have step:∀ d,(∀ o e,match d with | 0=>True | d+1=>∀ i,(a9n (a66 t d) t o e i).jr=a6w (a7b t d) t o e i)→∀ i,(a66 t d i).jr=a7b t d i:=by
  intro d hd i
  unfold a66 a7b
  obtain ⟨k,hk⟩:∃ k,f5 t i=k:=⟨_,rfl⟩
  rw [hk]
  have hnum:∀ (r:JZ Int),(match r with | .err c z=>(.err c z:JZ LJson) | .ok n k=>.ok (.mk 3 n [] [] []) k).jr=match r.jr with | .err c=>.err c | .ok n k=>.ok (.mk 3 n [] [] []) k:=fun r=>by cases r<;>rfl
  by_cases hi:k < t.length
  · rw [if_pos hi]
    obtain ⟨x,hx⟩:∃ x,t.getD k 0=x:=⟨_,rfl⟩
    have o:∀ (c:UInt8) (w:Tx),x≠c→(O7 t (c :: w) k=true)=False:=fun c w h=>by rw [b6w hx h];simp
    have w1:∀ c:UInt8,x=c→(O7 t [c] k=true)=True:=fun c h=>by rw [a8y,decide_eq_true ⟨hi,hx.trans h⟩];simp
    have no:(x≠45∧P8 x=false)→(match a5k t k with | .err c=>(.err c:JR LJson) | .ok n k=>.ok (.mk 3 n [] [] []) k)=.err 3:=fun h=>by rw [c0w fun _=>by rw [hx];exact h]
    rw [hx]
    by_cases c1:x=110
    · subst c1
      simp only [jnull,jtrue,jfalse,o 116 [114,117,101] (by decide),o 102 [97,108,115,101] (by decide),o 91 [] (by decide),o 123 [] (by decide),o 34 [] (by decide),if_false]
      by_cases hj:O7 t [110,117,108,108] k=true
      · simp only [hj,if_true];rfl
      · simp only [hj,Bool.false_eq_true,if_false];rw [hnum,a7u,no (by decide)]
    by_cases c2:x=116
    · subst c2
      simp only [jnull,jtrue,jfalse,o 110 [117,108,108] (by decide),o 102 [97,108,115,101] (by decide),o 91 [] (by decide),o 123 [] (by decide),o 34 [] (by decide),if_false]
      by_cases hj:O7 t [116,114,117,101] k=true
      · simp only [hj,if_true];rfl
      · simp only [hj,Bool.false_eq_true,if_false];rw [hnum,a7u,no (by decide)]
    by_cases c3:x=102
    · subst c3
      simp only [jnull,jtrue,jfalse,o 110 [117,108,108] (by decide),o 116 [114,117,101] (by decide),o 91 [] (by decide),o 123 [] (by decide),o 34 [] (by decide),if_false]
      by_cases hj:O7 t [102,97,108,115,101] k=true
      · simp only [hj,if_true];rfl
      · simp only [hj,Bool.false_eq_true,if_false];rw [hnum,a7u,no (by decide)]
    simp only [jnull,jtrue,jfalse,o 110 [117,108,108] c1,o 116 [114,117,101] c2,o 102 [97,108,115,101] c3,if_false]
    by_cases c4:x=34
    · subst c4
      simp only [o 91 [] (by decide),o 123 [] (by decide),w1 34 rfl,if_false,if_true]
      rw [← a4s]
      cases a0u t k<;>rfl
    by_cases c5:x=91
    · subst c5
      simp only [w1 91 rfl,if_true]
      cases d with
      | zero=>rfl
      | succ d=>
       simp only []
       rw [b8k,hd]
    by_cases c6:x=123
    · subst c6
      simp only [o 91 [] (by decide),w1 123 rfl,if_false,if_true]
      cases d with
      | zero=>rfl
      | succ d=>
       simp only []
       rw [b8k,hd]
    simp only [o 91 [] c5,o 123 [] c6,o 34 [] c4,if_false]
    rw [hnum,a7u]
    all_goals rfl
  · rw [if_neg hi]
    have o:∀ (c:UInt8) (w:Tx),(O7 t (c :: w) k=true)=False:=fun c w=>by
     cases hj:O7 t (c :: w) k with
     | false=>simp
     | true=>exact absurd (a1d hj).1 hi
    simp only [jnull,jtrue,jfalse,o,if_false]
    rw [hnum,a7u,c0w fun h=>absurd h hi]
 intro d
 induction d with
 | zero=>exact step 0 (fun o e=>trivial)
 | succ d ih=>exact step (d+1) (fun o e i=>b6b ih t o e i)
end Go.KP
end
section
namespace Go.KP
end Go.KP
end
section
namespace Go.KP
end Go.KP
end
section
namespace Go.KP
theorem c1q (u:LUrl):(X6 { u with frag:=[],hasF:=false }).length≤(X6 u).length:=by
 unfold X6
 dsimp only
 by_cases hw:a0b u.scheme=true
 · rw [if_pos hw,if_pos hw];simp only [List.length_append];simp
 · rw [if_neg hw,if_neg hw];exact Nat.le_refl _
theorem c11 {t u:Tx} (h:Z4 t=some u):u.length≤100:=by
 unfold Z4 at h
 split at h
 · rename_i hh
   cases h
   simp only [Bool.and_eq_true] at hh
   have h1:=b1p (a8w hh.1)
   exact Nat.le_trans (c1q (R5 t).1) h1
 · cases h
theorem b6v (t:Tx):((Z4 t).getD []).length≤100:=by
 cases h:Z4 t with
 | none=>simp
 | some u=>exact c11 h
end Go.KP
end
