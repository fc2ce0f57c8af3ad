/- Ac: merged out of KPa, KPb, KPc, KPd, KPe, KPf, KPg, KPh, KPi, KPj, KPk, KPl, KPm, KPn, KQa, KRa, KLa, KRb, KRc, KPt, KPu, KPv. -/
import Derived.Test.YtgdapgcjmfeocaaGreatDoorPWv
set_option linter.unusedSectionVars false
set_option linter.unusedSimpArgs false
set_option linter.unusedVariables false
section
namespace Go.KP
abbrev Tx:=List UInt8
def M7 (c:UInt8):Bool:=decide (97≤c.toNat∧c.toNat≤122)
def M3 (c:UInt8):Bool:=decide (48≤c.toNat∧c.toNat≤57)
def b7y (c:UInt8):UInt8:=if 65≤c.toNat∧c.toNat≤90 then c+32 else c
def Q0 (t:Tx):Tx:=t.map b7y
def J0 (t:Tx) (c:UInt8):Nat:=t.findIdx (· == c)
def W1 (t wo:Tx):Bool:=t.all fun c=>decide (33≤c.toNat∧c.toNat≤126) && !decide (c∈wo)
def a5r:Tx:=[104,116,116,112]
def a7z:Tx:=[104,116,116,112,115]
def Z1 (s:Tx):Bool:=s == a5r || s == a7z
def U8 (c:UInt8):Bool:=M7 c || M3 c || decide (c.toNat=45∨c.toNat=43∨c.toNat=46)
def a3e (t:Tx):Bool:=(t.take 1).all M7 && t.all U8
def U2 (t:Tx):Bool:=decide (1≤t.length∧t.length≤12) && a3e t
def S9:Bool→Tx→Bool
 | last,[]=>!last
 | last,c :: r=>if !(M7 c || M3 c) && (last || !decide (c.toNat=45∨c.toNat=46)) then false else S9 (!(M7 c || M3 c)) r
def a1d (t:Tx):Bool:=S9 true t
def Z3 (s:Tx):Int:=if s=a5r then 80 else 443
def a12 (n:Nat):Tx:=if h:n < 10 then [UInt8.ofNat (48+n)] else a12 (n / 10)++[UInt8.ofNat (48+n % 10)]
termination_by n
decreasing_by omega
theorem b75 (t:Tx) (c:UInt8) (i:Nat) (hi:i≤t.length) (h:∀ k,k < i→t.getD k 0≠c) (h':i=t.length∨t.getD i 0=c):J0 t c=i:=by
 unfold J0
 by_cases hl:i < t.length
 · rw [List.findIdx_eq hl]
   refine ⟨?_,fun j hj=>?_⟩
   · rcases h' with h' | h'
     · omega
     · simpa [List.getD_eq_getElem?_getD,List.getElem?_eq_getElem hl] using h'
   · have:=h j hj
     have hjl:j < t.length:=by omega
     simpa [List.getD_eq_getElem?_getD,List.getElem?_eq_getElem hjl] using this
 · have e:i=t.length:=by omega
   subst e
   rw [List.findIdx_eq_length]
   intro x hx
   obtain ⟨j,hj,rfl⟩:=List.getElem_of_mem hx
   have:=h j hj
   simpa [List.getD_eq_getElem?_getD,List.getElem?_eq_getElem hj] using this
theorem a0k (t:Tx) (c:UInt8):J0 t c≤t.length:=List.findIdx_le_length
theorem U6 {t:Tx} {c:UInt8}:J0 t c < t.length↔c∈t:=by
 unfold J0
 rw [List.findIdx_lt_length]
 constructor
 · rintro ⟨x,hx,h⟩;have:x=c:=by simpa using h
   exact this ▸ hx
 · intro h;exact ⟨c,h,by simp⟩
theorem a3p {α:Type} (t:List α) (i:Nat) (d:α) (h:i < t.length):t.getD i d=t[i]:=by simp [List.getD_eq_getElem?_getD,List.getElem?_eq_getElem h]
theorem b4m {α:Type} (t:List α) (i:Nat) (d:α) (h:i < t.length):t.take (i+1)=t.take i++[t.getD i d]:=by
 rw [List.take_add_one,List.getElem?_eq_getElem h,a3p t i d h];rfl
theorem a03 {n:Nat} (h:n < 10):a12 n=[UInt8.ofNat (48+n)]:=by rw [a12];simp [h]
theorem a3n {n:Nat} (h:¬ n < 10):a12 n=a12 (n / 10)++[UInt8.ofNat (48+n % 10)]:=by rw [a12];simp [h]
theorem c63 (n:Nat):(a12 n).length≤n+1:=by
 induction n using Nat.strongRecOn with
 | ind n ih=>
  by_cases h:n < 10
  · rw [a03 h];simp
  · rw [a3n h]
    have:=ih (n / 10) (by omega)
    simp;omega
theorem a3w:∀ (k n:Nat),n < 10 ^ (k+1)→(a12 n).length≤k+1
 | 0,n,h=>by rw [a03 (by simpa using h)];simp
 | k+1,n,h=>by
  by_cases hn:n < 10
  · rw [a03 hn];simp
  · rw [a3n hn]
    have:=a3w k (n / 10) (by rw [Nat.div_lt_iff_lt_mul (by omega)];rw [Nat.pow_succ] at h;exact h)
    simp;omega
def a4x (n:Int):Tx:=if n < 0 then 45 :: a12 (-n).toNat else a12 n.toNat
def T8 (t:Tx):Nat:=t.foldl (fun n c=>n*10+(c.toNat - 48)) 0
def a2m (neg:Bool) (t:Tx):Bool:=decide (t.length=0∨18 < t.length) || (decide ((t.getD 0 0).toNat=48) && (decide (1 < t.length) || neg))
def a1c (neg:Bool) (t:Tx):Option Int:=if a2m neg t then none else if t.all M3 then some (if neg then - (T8 t:Int) else (T8 t:Int)) else none
def V1 (t:Tx):Option Int:=match t with
 | []=>none
 | c :: r=>if c=45 then a1c true r else a1c false (c :: r)
theorem a67 (t:Tx) (c:UInt8):T8 (t++[c])=T8 t*10+(c.toNat - 48):=by simp [T8]
theorem b1o (t:Tx) (h:t.all M3=true):T8 t < 10 ^ t.length:=by
 have key:∀ (k:Nat) (t:Tx),t.length=k→t.all M3=true→T8 t < 10 ^ t.length:=by
  intro k
  induction k with
  | zero=>intro t ht _;have:t=[]:=List.eq_nil_of_length_eq_zero ht;subst this;decide
  | succ k ih=>
   intro t ht ha
   obtain ⟨r,c,rfl⟩:∃ r c,t=r++[c]:=⟨t.dropLast,t.getLast (by intro e;subst e;simp at ht),(List.dropLast_concat_getLast _).symm⟩
   simp only [List.all_append,Bool.and_eq_true] at ha
   have h1:=ih r (by simpa using ht) ha.1
   have h2:M3 c=true:=by simpa using ha.2
   simp [M3] at h2
   rw [a67]
   simp only [List.length_append,List.length_singleton,Nat.pow_succ]
   omega
 exact key t.length t rfl h
theorem Q4 {α:Type} (t:List α) (p:α→Bool) (i:Nat) (h:i < t.length):(t.take (i+1)).all p=((t.take i).all p && p t[i]):=by
 rw [List.take_add_one,List.getElem?_eq_getElem h,List.all_append];simp
theorem b0n (t:Tx) (i:Nat) (h:i < t.length):a3e (t.take (i+1))=(a3e (t.take i) && (if i=0 then M7 t[i] else U8 t[i])):=by
 unfold a3e
 rw [Q4 t _ i h]
 by_cases hi:i=0
 · subst hi
   have:(t.take (0+1)).take 1=[t[0]]:=by
    cases t with
    | nil=>simp at h
    | cons c r=>simp
   rw [this]
   simp [U8]
   cases M7 t[0]<;>simp
 · have e1:(t.take (i+1)).take 1=t.take 1:=by rw [List.take_take,Nat.min_eq_left (by omega)]
   have e2:(t.take i).take 1=t.take 1:=by rw [List.take_take,Nat.min_eq_left (by omega)]
   rw [e1,e2]
   simp [hi,Bool.and_assoc]
theorem a8v (t:Tx) (i:Nat) (h:i < t.length) (hb:(if i=0 then M7 t[i] else U8 t[i])=false):a3e t=false:=by
 unfold a3e
 by_cases hi:i=0
 · subst hi
   rw [if_pos rfl] at hb
   cases t with
   | nil=>simp at h
   | cons c r=>simp at hb;simp [hb]
 · rw [if_neg hi] at hb
   have:t.all U8=false:=by rw [List.all_eq_false];exact ⟨t[i],List.getElem_mem h,by simp [hb]⟩
   simp [this]
structure LUrl where
 scheme:Tx
 user:Tx
 host:Tx
 port:Int
 path:Tx
 query:Tx
 frag:Tx
 hasQ:Bool
 hasF:Bool
def LUrl.Small (u:LUrl):Prop:=u.scheme.length < 1099511627776∧u.user.length < 1099511627776∧u.host.length < 1099511627776∧u.path.length < 1099511627776∧u.query.length < 1099511627776∧u.frag.length < 1099511627776∧u.port≤9223372036854775807
def a1f (p:Int):Tx:=if 0 < p then 58 :: a12 p.toNat else []
theorem b96 (p:Int) (h:p≤9223372036854775807):(a1f p).length≤20:=by
 unfold a1f
 split
 · have:=a3w 18 p.toNat (by omega)
   simp;omega
 · simp
def c2m (u:LUrl):Tx:=u.scheme++[58,47,47]++u.host++a1f u.port
def W0 (u:LUrl):Tx:=
 if Z1 u.scheme then
  u.scheme++[58,47,47]++(if u.user=[] then [] else u.user++[64])++(u.host++a1f u.port++u.path)++(if u.hasQ then 63 :: u.query else [])++(if u.hasF then 35 :: u.frag else [])
 else u.scheme++[58]++u.path
def Q5 (u:LUrl):Bool:=
 U2 u.scheme && (u.hasQ || decide (u.query=[])) && (u.hasF || decide (u.frag=[])) && W1 u.path [63,35] && W1 u.query [35] && W1 u.frag [] && decide ((W0 u).length≤100) &&
 (if Z1 u.scheme then W1 u.user [47,63,35,64] && a1d u.host && decide (0≤u.port∧u.port≤65535) && decide (u.port≠Z3 u.scheme) && decide (0 < u.path.length) && decide ((u.path.getD 0 0).toNat=47)
  else decide (u.user=[]) && decide (u.host=[]) && decide (u.port=0) && !u.hasQ && !u.hasF)
end Go.KP
end
section
namespace Go.KP
def j8 (t:Tx) (c:UInt8):Tx:=t.take (J0 t c)
def A3 (t:Tx) (c:UInt8):Tx:=t.drop (J0 t c+1)
theorem a0t {t:Tx} {c:UInt8} (h:c∉t):j8 t c=t:=by
 unfold j8
 have h1:=a0k t c
 have h2:¬ J0 t c < t.length:=fun h'=>h (U6.1 h')
 rw [show J0 t c=t.length by omega,List.take_length]
theorem a73 {t:Tx} {c:UInt8} (h:c∉t):A3 t c=[]:=by
 unfold A3
 have h2:¬ J0 t c < t.length:=fun h'=>h (U6.1 h')
 exact List.drop_eq_nil_of_le (by omega)
theorem Q3 (t:Tx) (c:UInt8):(j8 t c).length≤t.length:=by unfold j8;simp;omega
theorem X3 (t:Tx) (c:UInt8):(A3 t c).length≤t.length:=by unfold A3;simp
def LUrl.zero:LUrl:=⟨[],[],[],0,[],[],[],false,false⟩
def a1l (sc r:Tx):Option Int:=
 if 58∈r then
  match V1 (A3 r 58) with
  | some n=>if 1≤n∧n≤65535 then some (if n=Z3 sc then 0 else n) else none
  | none=>none
 else some 0
def a39 (sc r0:Tx):LUrl×Bool:=
 let r1:=j8 r0 35
 let r2:=j8 r1 63
 let r3:=j8 r2 47
 let r4:=if 64∈r3 then A3 r3 64 else r3
 match a1l sc r4 with
 | none=>(LUrl.zero,false)
 | some p=>
  let u:LUrl:=⟨sc,if 64∈r3 then j8 r3 64 else [],Q0 (j8 r4 58),p,if 47∈r2 then r2.drop (J0 r2 47) else [47],A3 r1 63,A3 r0 35,decide (63∈r1),decide (35∈r0)⟩
  (u,Q5 u)
def A6 (t:Tx):LUrl×Bool:=
 if 58∈t then
  let sc:=Q0 (j8 t 58)
  let rest:=A3 t 58
  if Z1 sc then
   if rest.take 2=[47,47] then a39 sc (rest.drop 2) else (LUrl.zero,false)
  else
   let u:LUrl:=⟨sc,[],[],0,j8 (j8 rest 35) 63,[],[],false,false⟩
   (u,Q5 u)
 else (LUrl.zero,false)
structure LTarget where
 url:Tx
 prio:Int
 weight:Int
 deriving DecidableEq
structure LPeer where
 target:LTarget
 fails:Int
 retry:Int
 gone:Bool
 deriving DecidableEq
def N5 (x:LTarget):Bool:=
 (A6 x.url).2 && Z1 (A6 x.url).1.scheme && !(A6 x.url).1.hasF && decide (W0 (A6 x.url).1=x.url) && decide (1≤x.prio∧x.prio≤9) && decide (1≤x.weight∧x.weight≤9)
def a3m (x:LPeer):Bool:=
 N5 x.target && decide (0≤x.fails∧x.fails≤1000000) && decide (0≤x.retry∧x.retry≤1000032) && !(decide (x.fails=0) && decide (x.retry≠0))
def S5:List Tx→List LPeer→Bool
 | _,[]=>true
 | seen,p :: r=>decide (p.target.url∉seen) && S5 (seen++[p.target.url]) r
def X8 (l:List LPeer):Bool:=decide (l.length≤4) && l.all a3m && S5 [] l
end Go.KP
end
section
namespace Go.KP
def S7 (t:Tx):Bool:=t.all fun c=>decide (33≤c.toNat∧c.toNat≤126)
def Q2 (t wo:Tx):Bool:=t.any fun c=>decide (c∈wo)
theorem c60 (t wo:Tx):W1 t wo=(S7 t && !Q2 t wo):=by
 unfold W1 S7 Q2
 induction t with
 | nil=>rfl
 | cons c r ih=>
  simp only [List.all_cons,List.any_cons,ih]
  cases decide (33≤c.toNat∧c.toNat≤126)<;>cases decide (c∈wo)<;>simp
theorem c4a (t:Tx):W1 t []=S7 t:=by simp [W1,S7]
theorem a7m (a b:Tx):S7 (a++b)=(S7 a && S7 b):=by simp [S7]
theorem a5t:∀ (t:Tx) (last:Bool),S9 last t=true→S7 t=true
 | [],_,_=>rfl
 | c :: r,last,h=>by
  simp only [S9] at h
  split at h
  · cases h
  · rename_i hc
    have ih:=a5t r _ h
    have hh:S7 (c :: r)=(decide (33≤c.toNat∧c.toNat≤126) && S7 r):=rfl
    rw [hh,ih]
    simp [M7,M3] at hc ⊢
    omega
theorem b73 {t:Tx} (h:a1d t=true):S7 t=true:=a5t t _ h
def a2b (p:Int):Tx:=if p=0 then [] else 58 :: a4x p
def a2a (u:LUrl):Tx:=
 if Z1 u.scheme then
  u.scheme++[58,47,47]++(if u.user=[] then [] else u.user++[64])++u.host++a2b u.port++u.path++(if u.hasQ then 63 :: u.query else [])++(if u.hasF then 35 :: u.frag else [])
 else u.scheme++[58]++u.path
theorem a6d {u:LUrl} (h:0≤u.port):a2a u=W0 u:=by
 unfold a2a W0
 split
 · have:a2b u.port=a1f u.port:=by
    unfold a2b a1f a4x
    by_cases h0:u.port=0
    · simp [h0]
    · have g1:0 < u.port:=by omega
      have g2:¬ u.port < 0:=by omega
      simp only [h0,g1,g2,if_true,if_false]
   rw [this];simp
 · rfl
def a95 (u:LUrl):Bool:=
 U2 u.scheme && decide (u.user.length+u.host.length+u.path.length+u.query.length+u.frag.length≤100) && decide ((a2a u).length≤100) && S7 (u.user++u.host++u.path++u.query++u.frag) && !Q2 u.path [63,35] &&
 (if Z1 u.scheme then !Q2 u.user [47,63,35,64] && a1d u.host && decide (0≤u.port∧u.port≤65535) && decide (u.port≠Z3 u.scheme) && decide (0 < u.path.length) && decide ((u.path.getD 0 0).toNat=47) && !Q2 u.query [35] && (u.hasQ || decide (u.query=[])) && (u.hasF || decide (u.frag=[]))
  else decide (u.user=[]) && decide (u.host=[]) && decide (u.port=0) && decide (u.query=[]) && decide (u.frag=[]) && !u.hasQ && !u.hasF)
theorem c4f (u:LUrl):a95 u=Q5 u:=by
 by_cases hp:0≤u.port
 · unfold a95 Q5
   rw [a6d hp]
   simp only [c60,c4a,a7m]
   by_cases hw:Z1 u.scheme=true
   · rw [if_pos hw,if_pos hw]
     rw [Bool.eq_iff_iff]
     have hl:(W0 u).length=u.scheme.length+3+(if u.user=[] then 0 else u.user.length+1)+(u.host.length+(a1f u.port).length+u.path.length)+(if u.hasQ then u.query.length+1 else 0)+(if u.hasF then u.frag.length+1 else 0):=by
      unfold W0
      rw [if_pos hw]
      simp only [List.length_append]
      congr 1
      · congr 1
        · congr 1
          congr 1
          split<;>simp
        · split<;>simp
      · split<;>simp
     constructor
     · intro h
       simp only [Bool.and_eq_true,Bool.or_eq_true,decide_eq_true_eq,Bool.not_eq_true'] at h ⊢
       obtain ⟨⟨⟨⟨⟨h1,h2⟩,h3⟩,h4⟩,h5⟩,h6⟩:=h
       obtain ⟨⟨⟨⟨⟨⟨⟨⟨a1,a2⟩,a3⟩,a4⟩,a5⟩,a6⟩,a7⟩,a8⟩,a9⟩:=h6
       obtain ⟨⟨⟨⟨b1,b2⟩,b3⟩,b4⟩,b5⟩:=h4
       exact ⟨⟨⟨⟨⟨⟨⟨h1,a8⟩,a9⟩,b3,h5⟩,b4,a7⟩,b5,by simp [Q2]⟩,h3⟩,⟨⟨⟨⟨⟨b1,a1⟩,a2⟩,a3⟩,a4⟩,a5⟩,a6⟩
     · intro h
       simp only [Bool.and_eq_true,Bool.or_eq_true,decide_eq_true_eq,Bool.not_eq_true'] at h ⊢
       obtain ⟨⟨⟨⟨⟨⟨⟨c1,c2⟩,c3⟩,c4⟩,c5⟩,c6⟩,c7⟩,c8⟩:=h
       obtain ⟨⟨⟨⟨⟨d1,d2⟩,d3⟩,d4⟩,d5⟩,d6⟩:=c8
       have e:=b73 d2
       refine ⟨⟨⟨⟨⟨c1,?_⟩,c7⟩,?_⟩,c4.2⟩,⟨⟨⟨⟨⟨⟨⟨⟨d1.2,d2⟩,d3⟩,d4⟩,d5⟩,d6⟩,c5.2⟩,c2⟩,c3⟩⟩
       · have q1:u.query.length≤(if u.hasQ then u.query.length+1 else 0):=by
          rcases c2 with h | h
          · rw [h];simp
          · rw [h];simp
         have q2:u.frag.length≤(if u.hasF then u.frag.length+1 else 0):=by
          rcases c3 with h | h
          · rw [h];simp
          · rw [h];simp
         have q3:u.user.length≤(if u.user=[] then 0 else u.user.length+1):=by
          split
          · rename_i h;rw [h];simp
          · omega
         omega
       · exact ⟨⟨⟨⟨d1.1,e⟩,c4.1⟩,c5.1⟩,c6.1⟩
   · rw [if_neg hw,if_neg hw]
     rw [Bool.eq_iff_iff]
     have hl:(W0 u).length=u.scheme.length+1+u.path.length:=by
      unfold W0
      rw [if_neg hw]
      simp;omega
     constructor
     · intro h
       simp only [Bool.and_eq_true,Bool.or_eq_true,decide_eq_true_eq,Bool.not_eq_true'] at h ⊢
       obtain ⟨⟨⟨⟨⟨h1,h2⟩,h3⟩,h4⟩,h5⟩,⟨⟨⟨⟨⟨⟨a1,a2⟩,a3⟩,a4⟩,a5⟩,a6⟩,a7⟩⟩:=h
       obtain ⟨⟨⟨⟨b1,b2⟩,b3⟩,b4⟩,b5⟩:=h4
       have e:Q2 u.frag []=false:=by simp [Q2]
       have e2:Q2 u.query [35]=false:=by rw [a4];rfl
       refine ⟨⟨⟨⟨⟨⟨⟨h1,.inr a4⟩,.inr a5⟩,b3,h5⟩,b4,e2⟩,b5,by simp [Q2]⟩,h3⟩,⟨⟨⟨⟨a1,a2⟩,a3⟩,a6⟩,a7⟩⟩
     · intro h
       simp only [Bool.and_eq_true,Bool.or_eq_true,decide_eq_true_eq,Bool.not_eq_true'] at h ⊢
       obtain ⟨⟨⟨⟨⟨⟨⟨c1,c2⟩,c3⟩,c4⟩,c5⟩,c6⟩,c7⟩,⟨⟨⟨⟨d1,d2⟩,d3⟩,d4⟩,d5⟩⟩:=h
       have q:u.query=[]:=by rcases c2 with h | h;(rw [d4] at h;cases h);exact h
       have f:u.frag=[]:=by rcases c3 with h | h;(rw [d5] at h;cases h);exact h
       refine ⟨⟨⟨⟨⟨c1,?_⟩,c7⟩,?_⟩,c4.2⟩,⟨⟨⟨⟨⟨⟨d1,d2⟩,d3⟩,q⟩,f⟩,d4⟩,d5⟩⟩
       · simp [d1,d2,q,f];omega
       · refine ⟨⟨⟨⟨?_,?_⟩,c4.1⟩,c5.1⟩,c6.1⟩<;>simp [d1,d2,S7]
 · have e1:a95 u=false:=by
    unfold a95
    have h1:decide (0≤u.port∧u.port≤65535)=false:=by simp;omega
    have h2:decide (u.port=0)=false:=by simp;omega
    simp [h1,h2]
   have e2:Q5 u=false:=by
    unfold Q5
    have h1:decide (0≤u.port∧u.port≤65535)=false:=by simp;omega
    have h2:decide (u.port=0)=false:=by simp;omega
    simp [h1,h2]
   rw [e1,e2]
end Go.KP
end
section
namespace Go.KP
theorem a68 {t:Tx} (h:(A6 t).2=true):Q5 (A6 t).1=true:=by
 unfold A6 a39 at h ⊢
 split at h
 · rename_i h1
   rw [if_pos h1]
   dsimp only at h ⊢
   split at h
   · rename_i h2
     rw [if_pos h2]
     split at h
     · rename_i h3
       rw [if_pos h3]
       split at h
       · cases h
       · exact h
     · cases h
   · rename_i h2
     rw [if_neg h2]
     exact h
 · cases h
theorem a6b {u:LUrl} (h:Q5 u=true):0≤u.port:=by
 unfold Q5 at h
 simp only [Bool.and_eq_true] at h
 obtain ⟨_,h⟩:=h
 split at h
 · simp only [Bool.and_eq_true,decide_eq_true_eq] at h
   exact h.1.1.1.2.1
 · simp only [Bool.and_eq_true,decide_eq_true_eq] at h
   omega
theorem b0t {u:LUrl} (h:Q5 u=true) (hf:u.hasF=false):u.frag=[]:=by
 unfold Q5 at h
 simp only [Bool.and_eq_true,Bool.or_eq_true,decide_eq_true_eq,hf] at h
 rcases h.1.1.1.1.1.2 with h | h
 · cases h
 · exact h
theorem b2m {u:LUrl} (h:Q5 u=true):(W0 u).length≤100:=by
 unfold Q5 at h
 simp only [Bool.and_eq_true,decide_eq_true_eq] at h
 exact h.1.2
theorem c4e {t:Tx} {c x:UInt8} (h:x∈A3 t c):x∈t:=List.mem_of_mem_drop h
theorem b7w {t:Tx} (h:(A6 t).1.hasF=true):35∈t:=by
 unfold A6 a39 at h
 split at h
 · dsimp only at h
   split at h
   · split at h
     · split at h
       · cases h
       · simp only [decide_eq_true_eq] at h
         exact c4e (List.mem_of_mem_drop h)
     · cases h
   · cases h
 · cases h
theorem a9d:∀ (n:Nat),(a12 n).all M3=true:=by
 intro n
 induction n using Nat.strongRecOn with
 | ind n ih=>
  by_cases h:n < 10
  · rw [a03 h]
    simp [M3]
    omega
  · rw [a3n h,List.all_append,ih (n / 10) (by omega)]
    simp [M3]
    omega
theorem a92 {t wo:Tx} {c:UInt8} (h:W1 t wo=true) (hc:c∈wo):c∉t:=by
 intro hm
 unfold W1 at h
 rw [List.all_eq_true] at h
 have:=h c hm
 simp [hc] at this
theorem b0w:∀ (t:Tx) (last:Bool),S9 last t=true→35∉t
 | [],_,_=>by simp
 | c :: r,last,h=>by
  simp only [S9] at h
  split at h
  · cases h
  · rename_i hc
    have ih:=b0w r _ h
    intro hm
    rcases List.mem_cons.1 hm with e | e
    · subst e;apply hc;simp [M7,M3]
    · exact ih e
theorem c0l {s:Tx} (h:Z1 s=true):35∉s:=by
 simp [Z1] at h
 rcases h with h | h<;>subst h<;>decide
def a1t (t:Tx):Option Tx:=
 if t.length≤65536 then
  if (A6 t).2 && Z1 (A6 t).1.scheme then some (a2a { (A6 t).1 with frag:=[],hasF:=false }) else none
 else none
theorem c4i (t:Tx):decide (a1t t=some t)=((A6 t).2 && Z1 (A6 t).1.scheme && !(A6 t).1.hasF && decide (W0 (A6 t).1=t)):=by
 rw [Bool.eq_iff_iff]
 simp only [decide_eq_true_eq,Bool.and_eq_true,Bool.not_eq_true']
 unfold a1t
 constructor
 · intro h
   split at h
   · split at h
     · rename_i h1 h2
       simp only [Bool.and_eq_true] at h2
       simp only [Option.some.injEq] at h
       have hok:=a68 h2.1
       have hp:=a6b hok
       cases hf:(A6 t).1.hasF with
       | true=>
        exfalso
        have h35:=b7w hf
        rw [a6d (by exact hp)] at h
        have hn:35∉W0 { (A6 t).1 with frag:=[],hasF:=false }:=by
         have hok2:=hok
         unfold Q5 at hok2
         simp only [Bool.and_eq_true,Bool.or_eq_true,decide_eq_true_eq,h2.2,if_true] at hok2
         obtain ⟨⟨⟨⟨⟨⟨⟨c1,c2⟩,c3⟩,c4⟩,c5⟩,c6⟩,c7⟩,⟨⟨⟨⟨⟨d1,d2⟩,d3⟩,d4⟩,d5⟩,d6⟩⟩:=hok2
         have e1:=a92 (c:=35) c4 (by simp)
         have e2:=a92 (c:=35) c5 (by simp)
         have e3:=a92 (c:=35) d1 (by simp)
         have e4:=b0w _ _ d2
         have e5:=c0l h2.2
         have e6:35∉a12 (A6 t).1.port.toNat:=fun hm=>by
          have:=a9d (A6 t).1.port.toNat
          rw [List.all_eq_true] at this
          have:=this 35 hm
          simp [M3] at this
         unfold W0 a1f
         rw [if_pos h2.2]
         dsimp only
         intro hm
         simp only [List.mem_append] at hm
         rcases hm with (((hm | hm) | hm) | hm) | hm
         · rcases hm with hm | hm
           · exact e5 hm
           · simp at hm
         · split at hm
           · simp at hm
           · simp at hm;exact e3 hm
         · rcases hm with (hm | hm) | hm
           · exact e4 hm
           · split at hm
             · simp at hm;exact e6 hm
             · simp at hm
           · exact e1 hm
         · split at hm
           · simp at hm;exact e2 hm
           · simp at hm
         · simp at hm
        rw [h] at hn
        exact hn h35
       | false=>
        have hfr:=b0t hok hf
        have e:{ (A6 t).1 with frag:=[],hasF:=false }=(A6 t).1:=by
         rw [← hfr,← hf]
        rw [e,a6d hp] at h
        exact ⟨⟨h2,rfl⟩,h⟩
     · cases h
   · cases h
 · rintro ⟨⟨⟨h1,h2⟩,hf⟩,h⟩
   have hok:=a68 h1
   have hfr:=b0t hok hf
   have hl:=b2m hok
   rw [h] at hl
   rw [if_pos (by omega),h1,h2]
   have e:{ (A6 t).1 with frag:=[],hasF:=false }=(A6 t).1:=by
    rw [← hfr,← hf]
   rw [e,a6d (a6b hok),h]
   rfl
theorem b54 (x:LTarget):(decide (a1t x.url=some x.url) && decide (1≤x.prio∧x.prio≤9) && decide (1≤x.weight∧x.weight≤9))=N5 x:=by
 rw [c4i];rfl
end Go.KP
end
section
namespace Go.KP
theorem b5a (k:Nat) (h:k < 10):(UInt8.ofNat (48+k)).toNat=48+k:=by
 rw [UInt8.toNat_ofNat'];omega
theorem b4s (n:Nat):T8 (a12 n)=n:=by
 induction n using Nat.strongRecOn with
 | ind n ih=>
  by_cases h:n < 10
  · rw [a03 h]
    have:=b5a n h
    simp only [T8,List.foldl_cons,List.foldl_nil,this];omega
  · rw [a3n h,a67,ih (n / 10) (by omega),b5a _ (by omega)]
    omega
theorem b5y (n:Nat):a12 n≠[]:=by
 by_cases h:n < 10
 · rw [a03 h];simp
 · rw [a3n h];simp
theorem c4d (n:Nat) (h0:n≠0):((a12 n).getD 0 0).toNat≠48:=by
 induction n using Nat.strongRecOn with
 | ind n ih=>
  by_cases h:n < 10
  · rw [a03 h]
    have:=b5a n h
    simp only [List.getD_cons_zero,this];omega
  · rw [a3n h]
    have h1:=ih (n / 10) (by omega) (by omega)
    cases hl:a12 (n / 10) with
    | nil=>exact absurd hl (b5y _)
    | cons c r=>rw [hl] at h1;simpa using h1
theorem b0z {c:UInt8} (h:M3 c=true):UInt8.ofNat (48+(c.toNat - 48))=c:=by
 simp only [M3,decide_eq_true_eq] at h
 apply UInt8.toNat_inj.1
 rw [b5a _ (by omega)];omega
theorem c4c:∀ (k:Nat) (t:Tx),t.length=k→t≠[]→t.all M3=true→((t.getD 0 0).toNat=48→t.length=1)→a12 (T8 t)=t:=by
 intro k
 induction k with
 | zero=>intro t ht h;exact absurd (List.eq_nil_of_length_eq_zero ht) h
 | succ k ih=>
  intro t ht hne ha hz
  obtain ⟨r,c,rfl⟩:∃ r c,t=r++[c]:=⟨t.dropLast,t.getLast hne,(List.dropLast_concat_getLast _).symm⟩
  simp only [List.all_append,Bool.and_eq_true] at ha
  have hc:M3 c=true:=by simpa using ha.2
  have hc':=hc
  simp only [M3,decide_eq_true_eq] at hc'
  rw [a67]
  cases r with
  | nil=>
   rw [show T8 []*10+(c.toNat - 48)=c.toNat - 48 by simp [T8]]
   rw [a03 (by omega),b0z hc];rfl
  | cons d r=>
   have hd:d.toNat≠48:=fun e=>by
    have:=hz (by simpa using e)
    simp at this
   have hi:=ih (d :: r) (by simpa using ht) (by simp) ha.1 (fun e=>absurd (by simpa using e) hd)
   have hpos:T8 (d :: r)≠0:=fun e=>by
    rw [e,a03 (by omega)] at hi
    have h2:UInt8.ofNat 48=d:=by simpa using (List.cons.inj hi).1
    exact hd (by rw [← h2];rfl)
   rw [a3n (by omega)]
   have e1:(T8 (d :: r)*10+(c.toNat - 48)) / 10=T8 (d :: r):=by omega
   have e2:(T8 (d :: r)*10+(c.toNat - 48)) % 10=c.toNat - 48:=by omega
   rw [e1,e2,hi,b0z hc]
def X6 (t:Tx):Nat:=match t with
 | []=>0
 | c :: r=>if c=45 then r.length else (c :: r).length
theorem b0r (neg:Bool) (n:Nat) (h18:(a12 n).length≤18) (hn:neg=true→n≠0):a2m neg (a12 n)=false:=by
 unfold a2m
 have h1:(a12 n).length≠0:=fun e=>b5y n (List.eq_nil_of_length_eq_zero e)
 by_cases h0:n=0
 · subst h0
   cases neg with
   | true=>exact absurd rfl (hn rfl)
   | false=>rw [a03 (by omega)];simp
 · have h2:=c4d n h0
   have e1:decide ((a12 n).length=0∨18 < (a12 n).length)=false:=by simp only [decide_eq_false_iff_not];omega
   have e2:decide (((a12 n).getD 0 0).toNat=48)=false:=by simp only [decide_eq_false_iff_not];exact h2
   rw [e1,e2];rfl
theorem b5v (n:Int) (h:X6 (a4x n)≤18):V1 (a4x n)=some n:=by
 unfold a4x at h ⊢
 by_cases h0:n < 0
 · rw [if_pos h0] at h ⊢
   have h':(a12 (-n).toNat).length≤18:=by simpa [X6] using h
   simp only [V1,if_true,a1c]
   rw [b0r true _ h' (fun _=>by omega),if_neg (by simp),if_pos (a9d _),b4s]
   simp;omega
 · rw [if_neg h0] at h ⊢
   cases hl:a12 n.toNat with
   | nil=>exact absurd hl (b5y _)
   | cons c r=>
    have hd:=a9d n.toNat
    rw [hl] at hd h
    have hc:c≠45:=fun e=>by subst e;simp [M3] at hd
    have h':(a12 n.toNat).length≤18:=by rw [hl];simpa [X6,hc] using h
    simp only [V1,hc,if_false]
    rw [← hl]
    simp only [a1c]
    rw [b0r false _ h' (fun e=>by cases e),if_neg (by simp),if_pos (a9d _),b4s]
    simp;omega
theorem a5g {t:Tx} {n:Int} (h:V1 t=some n):a4x n=t∧X6 t≤18 ∧
 ∃ u:Tx,u≠[]∧u.all M3=true∧u.length≤18∧((t=45 :: u∧n=-(T8 u:Int))∨(t=u∧n=T8 u)):=by
 have key:∀ (neg:Bool) (u:Tx),a1c neg u=some n→u≠[]∧u.length≤18∧u.all M3=true∧a12 (T8 u)=u∧(neg=true→T8 u≠0)∧n=(if neg then - (T8 u:Int) else (T8 u:Int)):=by
  intro neg u hu
  unfold a1c at hu
  split at hu
  · cases hu
  · rename_i hb
    split at hu
    · rename_i ha
      have hn:=(Option.some.inj hu).symm
      have hb':a2m neg u=false:=by simpa using hb
      unfold a2m at hb'
      rw [Bool.or_eq_false_iff] at hb'
      obtain ⟨q1,q2⟩:=hb'
      rw [decide_eq_false_iff_not] at q1
      have hne:u≠[]:=fun e=>q1 (by rw [e];simp)
      have hz:(u.getD 0 0).toNat=48→u.length=1∧neg=false:=fun e=>by
       rw [Bool.and_eq_false_iff] at q2
       rcases q2 with q2 | q2
       · simp only [decide_eq_false_iff_not] at q2;exact absurd e q2
       · rw [Bool.or_eq_false_iff,decide_eq_false_iff_not] at q2
         have:u.length≠0:=fun e=>hne (List.eq_nil_of_length_eq_zero e)
         exact ⟨by omega,q2.2⟩
      have hl:=c4c u.length u rfl hne ha (fun e=>(hz e).1)
      refine ⟨hne,by omega,ha,hl,fun hneg h0=>?_,hn⟩
      rw [h0,a03 (by omega)] at hl
      have:=(hz (by rw [← hl];rfl)).2
      rw [hneg] at this;cases this
    · cases hu
 unfold V1 at h
 split at h
 · cases h
 · rename_i c r
   split at h
   · rename_i hc
     subst hc
     obtain ⟨h1,h2,h3,h4,h5,h6⟩:=key true r h
     simp only [if_true] at h6
     have h5':=h5 rfl
     refine ⟨?_,by simpa [X6] using h2,r,h1,h3,h2,.inl ⟨rfl,h6⟩⟩
     unfold a4x
     rw [if_pos (by omega),h6]
     rw [show (- -(T8 r:Int)).toNat=T8 r by omega,h4]
   · rename_i hc
     obtain ⟨h1,h2,h3,h4,h5,h6⟩:=key false (c :: r) h
     have h6:n=(T8 (c :: r):Int):=h6
     refine ⟨?_,by simpa [X6,hc] using h2,c :: r,h1,h3,h2,.inr ⟨rfl,h6⟩⟩
     unfold a4x
     rw [if_neg (by omega),h6]
     rw [show ((T8 (c :: r):Int)).toNat=T8 (c :: r) by omega,h4]
end Go.KP
end
section
namespace Go.KP
theorem a9c {t:Tx} (ht:t.length < 1099511627776):(A6 t).1.Small:=by
 have hz:LUrl.zero.Small:=by simp [LUrl.Small,LUrl.zero]
 have hA:∀ (t:Tx) c,(j8 t c).length≤t.length:=Q3
 have hB:∀ (t:Tx) c,(A3 t c).length≤t.length:=X3
 unfold A6
 split
 · have h1:(Q0 (j8 t 58)).length≤t.length:=by have:=hA t 58;simpa [Q0] using this
   have h2:=hB t 58
   dsimp only
   split
   · split
     · unfold a39
       dsimp only
       have h3:((A3 t 58).drop 2).length≤t.length:=by simp;omega
       generalize (A3 t 58).drop 2=r0 at h3
       have h4:=hA r0 35
       have h4':=hB r0 35
       generalize j8 r0 35=r1 at h4
       have h5:=hA r1 63
       have h5':=hB r1 63
       generalize j8 r1 63=r2 at h5
       have h6:=hA r2 47
       generalize j8 r2 47=r3 at h6
       have h7:=hA r3 64
       have h7':(if 64∈r3 then A3 r3 64 else r3).length≤r3.length:=by
        split
        · exact hB r3 64
        · omega
       generalize (if 64∈r3 then A3 r3 64 else r3)=r4 at h7'
       have h8:(Q0 (j8 r4 58)).length≤r4.length:=by have:=hA r4 58;simpa [Q0] using this
       split
       · exact hz
       · rename_i p hp
         refine ⟨by show (Q0 _).length < _;omega,?_,by show (Q0 _).length < _;omega,?_,by show (A3 r1 63).length < _;omega,by show (A3 r0 35).length < _;omega,?_⟩
         · show (if 64∈r3 then j8 r3 64 else []).length < _
           split
           · omega
           · simp
         · show (if 47∈r2 then r2.drop (J0 r2 47) else [47]).length < _
           split
           · simp;omega
           · simp
         · show p≤_
           unfold a1l at hp
           split at hp
           · split at hp
             · split at hp
               · have:=Option.some.inj hp
                 split at this<;>omega
               · cases hp
             · cases hp
           · have:=Option.some.inj hp;omega
     · exact hz
   · have h3:=hA (A3 t 58) 35
     have h4:=hA (j8 (A3 t 58) 35) 63
     refine ⟨by show (Q0 _).length < _;omega,by simp,by simp,by show (j8 _ _).length < _;omega,by simp,by simp,by show (0:Int)≤_;omega⟩
 · exact hz
def LTarget.Small (x:LTarget):Prop:=x.url.length < 1099511627776
theorem a5b (l:List LPeer) (i:Nat) (h:i < l.length):S5 [] (l.take (i+1))=(S5 [] (l.take i) && decide (l[i].target.url∉(l.take i).map fun p=>p.target.url)):=by
 have key:∀ (l:List LPeer) (i:Nat) (seen:List Tx) (h:i < l.length),S5 seen (l.take (i+1))=(S5 seen (l.take i) && decide (l[i].target.url∉seen++(l.take i).map fun p=>p.target.url)):=by
  intro l
  induction l with
  | nil=>intro i seen h;simp at h
  | cons p l ih=>
   intro i seen h
   cases i with
   | zero=>simp [S5]
   | succ i=>
    simp only [List.take_succ_cons,S5,List.getElem_cons_succ,List.map_cons]
    rw [ih i (seen++[p.target.url]) (by simpa using h),Bool.and_assoc]
    congr 2
    simp
 simpa using key l i [] h
theorem a2h (l:List LPeer) (i:Nat) (h:S5 [] (l.take i)=false):S5 [] l=false:=by
 have key:∀ (l:List LPeer) (i:Nat) (seen:List Tx),S5 seen (l.take i)=false→S5 seen l=false:=by
  intro l
  induction l with
  | nil=>intro i seen h;simp [S5] at h
  | cons p l ih=>
   intro i seen h
   cases i with
   | zero=>simp [S5] at h
   | succ i=>
    simp only [List.take_succ_cons,S5] at h ⊢
    cases hd:decide (p.target.url∉seen) with
    | false=>rfl
    | true=>
     rw [hd] at h
     simp only [Bool.true_and] at h ⊢
     exact ih i _ h
 exact key l i [] h
end Go.KP
end
section
namespace Go.KP
def LUrl.Tiny (u:LUrl):Prop:=u.scheme.length < 1048577∧u.user.length < 1048577∧u.host.length < 1048577∧u.path.length < 1048577∧u.query.length < 1048577∧u.frag.length < 1048577∧(0≤u.port∧u.port≤65535)
theorem b7v {t:Tx} (ht:t.length < 1048577):(A6 t).1.Tiny:=by
 have hz:LUrl.zero.Tiny:=by simp [LUrl.Tiny,LUrl.zero]
 have hA:∀ (t:Tx) c,(j8 t c).length≤t.length:=Q3
 have hB:∀ (t:Tx) c,(A3 t c).length≤t.length:=X3
 unfold A6
 split
 · have h1:(Q0 (j8 t 58)).length≤t.length:=by have:=hA t 58;simpa [Q0] using this
   have h2:=hB t 58
   dsimp only
   split
   · split
     · unfold a39
       dsimp only
       have h3:((A3 t 58).drop 2).length≤t.length:=by simp;omega
       generalize (A3 t 58).drop 2=r0 at h3
       have h4:=hA r0 35
       have h4':=hB r0 35
       generalize j8 r0 35=r1 at h4
       have h5:=hA r1 63
       have h5':=hB r1 63
       generalize j8 r1 63=r2 at h5
       have h6:=hA r2 47
       generalize j8 r2 47=r3 at h6
       have h7:=hA r3 64
       have h7':(if 64∈r3 then A3 r3 64 else r3).length≤r3.length:=by
        split
        · exact hB r3 64
        · omega
       generalize (if 64∈r3 then A3 r3 64 else r3)=r4 at h7'
       have h8:(Q0 (j8 r4 58)).length≤r4.length:=by have:=hA r4 58;simpa [Q0] using this
       split
       · exact hz
       · rename_i p hp
         refine ⟨by show (Q0 _).length < _;omega,?_,by show (Q0 _).length < _;omega,?_,by show (A3 r1 63).length < _;omega,by show (A3 r0 35).length < _;omega,?_⟩
         · show (if 64∈r3 then j8 r3 64 else []).length < _
           split
           · omega
           · simp
         · show (if 47∈r2 then r2.drop (J0 r2 47) else [47]).length < _
           split
           · simp;omega
           · simp
         · show 0≤p∧p≤65535
           unfold a1l at hp
           split at hp
           · split at hp
             · split at hp
               · have:=Option.some.inj hp
                 split at this<;>omega
               · cases hp
             · cases hp
           · have:=Option.some.inj hp;omega
     · exact hz
   · have h3:=hA (A3 t 58) 35
     have h4:=hA (j8 (A3 t 58) 35) 63
     refine ⟨by show (Q0 _).length < _;omega,by simp,by simp,by show (j8 _ _).length < _;omega,by simp,by simp,by show (0:Int)≤0∧(0:Int)≤65535;omega⟩
 · exact hz
def W7 (l:List LTarget):Bool:=S5 [] (l.map fun t=>⟨t,0,0,false⟩)
theorem a8s (l:List LTarget) (i:Nat) (h:i < l.length):W7 (l.take (i+1))=(W7 (l.take i) && decide (l[i].url∉(l.take i).map fun t=>t.url)):=by
 have:=a5b (l.map fun t=>(⟨t,0,0,false⟩:LPeer)) i (by simpa using h)
 unfold W7
 rw [← List.map_take,← List.map_take] at this
 rw [this]
 congr 2
 simp [List.map_map,Function.comp_def]
theorem b3z (l:List LTarget) (i:Nat) (h:W7 (l.take i)=false):W7 l=false:=by
 unfold W7 at h ⊢
 rw [List.map_take] at h
 exact a2h _ i h
theorem a87:∀ (l l':List LPeer) (seen:List Tx),l.map (fun p=>p.target.url)=l'.map (fun p=>p.target.url)→S5 seen l=S5 seen l'
 | [],[],_,_=>rfl
 | p :: l,p' :: l',seen,h=>by
  simp only [List.map_cons,List.cons.injEq] at h
  simp only [S5,h.1]
  rw [a87 l l' _ h.2]
 | [],_ :: _,_,h=>by simp at h
 | _ :: _,[],_,h=>by simp at h
theorem b3y (l:List LPeer):W7 (l.map fun p=>p.target)=S5 [] l:=by
 unfold W7
 exact a87 _ _ _ (by simp [List.map_map,Function.comp_def])
end Go.KP
end
section
namespace Go.KP
def c6x (now:Int) (x:LPeer):Bool:=!x.gone && decide (x.retry≤now)
def chMatch (now b:Int) (x:LPeer):Bool:=c6x now x && decide (x.target.prio=b)
def chSum (now b:Int):List LPeer→Int
 | []=>0
 | x :: l=>(if chMatch now b x then x.target.weight else 0)+chSum now b l
structure ChInv (now:Int) (l:List LPeer) (a:Int×Int):Prop where
 lo:0≤a.2
 hi:a.2≤9*l.length
 sum:a.2=if a.2=0 then 0 else chSum now a.1 l
 low:∀ x∈l,c6x now x=true→a.1≤x.target.prio∧0 < a.2
 nine:a.2≠0→1≤a.1∧a.1≤9
end Go.KP
end
section
namespace Go.KP
end Go.KP
end
section
namespace Go.KP
end Go.KP
end
section
namespace Go.KP
def M6 {α:Type} (f:α→Nat) (l:List α):Nat:=(l.map f).sum
def zS {α:Type} (f:α→Nat) (l:List α):Nat:=l.length+M6 f l
def bdS {α:Type} (B:Nat) (p:α→Prop) (l:List α):Prop:=l.length≤B∧∀ x∈l,p x
def cut (left:Int) (n:Nat):Int:=if left - n < 0 then -1 else left - n
theorem k7 {left:Int} {n:Nat} (h:left - n < 0):cut left n=-1:=if_pos h
theorem G8 {left:Int} {n:Nat} (h:¬ left - n < 0):cut left n=left - n:=if_neg h
theorem c5j {left:Int} {n:Nat} (h:¬ cut left n < 0) (h0:0≤left):(n:Int)≤left∧cut left n=left - n:=by
 unfold cut at *
 split at h<;>rename_i h1
 · omega
 · rw [if_neg h1];omega
theorem a2p {α:Type} {f:α→Nat} (l:List α) {i:Nat} (h:i < l.length):M6 f (l.take (i+1))=M6 f (l.take i)+f l[i]:=by
 unfold M6
 rw [List.take_add_one,List.getElem?_eq_getElem h,List.map_append,List.sum_append]
 simp
theorem a5c {α:Type} {f:α→Nat} (l:List α) (i:Nat):M6 f (l.take i)≤M6 f l:=by
 unfold M6
 conv=>rhs;rw [← List.take_append_drop i l]
 rw [List.map_append,List.sum_append]
 omega
theorem c6w {α:Type} {f:α→Nat} {l:List α} {x:α} (h:x∈l):f x≤M6 f l:=by
 unfold M6
 induction l with
 | nil=>cases h
 | cons y l ih=>
  rcases List.mem_cons.1 h with rfl | h
  · simp
  · have:=ih h;simp;omega
theorem a5o {α:Type} {B:Nat} {f:α→Nat} {p:α→Prop} {l:List α} (hp:∀ x,f x≤B→p x) (h:zS f l≤B):bdS B p l:=by
 unfold zS at h
 exact ⟨by omega,fun x hx=>hp x (by have:=c6w (f:=f) hx;omega)⟩
def R0 (x:LTarget):Nat:=x.url.length
def T0 (B:Nat) (x:LTarget):Prop:=x.url.length≤B
theorem b1t {B:Nat} {x:LTarget} (h:R0 x≤B):T0 B x:=by
 unfold R0 at h
 unfold T0
 exact by omega
def X5 (x:LPeer):Nat:=R0 x.target
def a0y (B:Nat) (x:LPeer):Prop:=T0 B x.target
theorem c55 {B:Nat} {x:LPeer} (h:X5 x≤B):a0y B x:=by
 unfold X5 at h
 unfold a0y
 exact b1t (by omega)
structure LGroup where
 name:Tx
 age:Int
 targets:List LTarget
 deriving DecidableEq
def a3d (x:LGroup):Nat:=x.name.length+zS R0 x.targets
def a07 (B:Nat) (x:LGroup):Prop:=x.name.length≤B∧bdS B (T0 B) x.targets
theorem c3f {B:Nat} {x:LGroup} (h:a3d x≤B):a07 B x:=by
 unfold a3d at h
 unfold a07
 exact ⟨by omega,a5o (fun _ h=>b1t h) (show zS R0 x.targets≤B by omega)⟩
structure LRule where
 name:Tx
 words:List Tx
 deriving DecidableEq
def Z8 (x:LRule):Nat:=x.name.length+zS List.length x.words
def Y8 (B:Nat) (x:LRule):Prop:=x.name.length≤B∧bdS B (fun t=>t.length≤B) x.words
theorem c52 {B:Nat} {x:LRule} (h:Z8 x≤B):Y8 B x:=by
 unfold Z8 at h
 unfold Y8
 exact ⟨by omega,a5o (fun _ h=>h) (show zS List.length x.words≤B by omega)⟩
structure LPolicy where
 reportTo:Tx
 uris:List Tx
 rules:List LRule
 deriving DecidableEq
def a1n (x:LPolicy):Nat:=x.reportTo.length+zS List.length x.uris+zS Z8 x.rules
def Y3 (B:Nat) (x:LPolicy):Prop:=x.reportTo.length≤B∧bdS B (fun t=>t.length≤B) x.uris∧bdS B (Y8 B) x.rules
theorem b9r {B:Nat} {x:LPolicy} (h:a1n x≤B):Y3 B x:=by
 unfold a1n at h
 unfold Y3
 exact ⟨by omega,a5o (fun _ h=>h) (show zS List.length x.uris≤B by omega),a5o (fun _ h=>c52 h) (show zS Z8 x.rules≤B by omega)⟩
structure LViolation where
 document:Tx
 referrer:Tx
 blocked:Tx
 source:Tx
 directive:Tx
 sample:Tx
 line:Int
 column:Int
 redirected:Bool
 deriving DecidableEq
structure LReport where
 id:Int
 born:Int
 tries:Int
 body:Tx
 deriving DecidableEq
def Q7 (x:LReport):Nat:=x.body.length
def W6 (B:Nat) (x:LReport):Prop:=x.body.length≤B
theorem b9q {B:Nat} {x:LReport} (h:Q7 x≤B):W6 B x:=by
 unfold Q7 at h
 unfold W6
 exact by omega
structure LQueue where
 items:List LReport
 recent:List Tx
 deriving DecidableEq
def a9r (x:LQueue):Nat:=zS Q7 x.items+zS List.length x.recent
def a1r (B:Nat) (x:LQueue):Prop:=bdS B (W6 B) x.items∧bdS B (fun t=>t.length≤B) x.recent
theorem c3e {B:Nat} {x:LQueue} (h:a9r x≤B):a1r B x:=by
 unfold a9r at h
 unfold a1r
 exact ⟨a5o (fun _ h=>b9q h) (show zS Q7 x.items≤B by omega),a5o (fun _ h=>h) (show zS List.length x.recent≤B by omega)⟩
structure LChannel where
 group:LGroup
 peers:List LPeer
 queue:LQueue
 deriving DecidableEq
def H5 (x:LChannel):Nat:=a3d x.group+zS X5 x.peers+a9r x.queue
def Q9 (B:Nat) (x:LChannel):Prop:=a07 B x.group∧bdS B (a0y B) x.peers∧a1r B x.queue
theorem b6r {B:Nat} {x:LChannel} (h:H5 x≤B):Q9 B x:=by
 unfold H5 at h
 unfold Q9
 exact ⟨c3f (by omega),a5o (fun _ h=>c55 h) (show zS X5 x.peers≤B by omega),c3e (by omega)⟩
structure LEntry where
 kind:Int
 id:Int
 at_:Int
 deriving DecidableEq
def a9o (B:Nat) (x:LEntry):Prop:=True
structure LWire where
 at_:Int
 status:Int
 group:Tx
 url:Tx
 ids:List Int
 body:Tx
 lost:Bool
 deriving DecidableEq
def Z7 (x:LWire):Nat:=x.group.length+x.url.length+x.ids.length+x.body.length
def a0h (B:Nat) (x:LWire):Prop:=x.group.length≤B∧x.url.length≤B∧x.ids.length≤B∧x.body.length≤B
theorem c50 {B:Nat} {x:LWire} (h:Z7 x≤B):a0h B x:=by
 unfold Z7 at h
 unfold a0h
 exact ⟨by omega,by omega,by omega,by omega⟩
structure LPipe where
 channels:List LChannel
 policy:LPolicy
 now:Int
 next:Int
 log:List LEntry
 wires:List LWire
 deriving DecidableEq
def b6q (x:LPipe):Nat:=zS H5 x.channels+a1n x.policy+x.log.length+zS Z7 x.wires
def V6 (B:Nat) (x:LPipe):Prop:=bdS B (Q9 B) x.channels∧Y3 B x.policy∧x.log.length≤B∧bdS B (a0h B) x.wires
theorem c54 {B:Nat} {x:LPipe} (h:b6q x≤B):V6 B x:=by
 unfold b6q at h
 unfold V6
 exact ⟨a5o (fun _ h=>b6r h) (show zS H5 x.channels≤B by omega),b9r (by omega),by omega,a5o (fun _ h=>c50 h) (show zS Z7 x.wires≤B by omega)⟩
structure LEvent where
 kind:Int
 draw:Int
 status:Int
 ticks:Int
 text:Tx
 name:Tx
 violation:LViolation
 lost:Bool
 deriving DecidableEq
structure LParcel where
 id:Int
 age:Int
 body:Tx
 deriving DecidableEq
structure LBox where
 ids:List Int
 times:List Int
 bodies:List Tx
 deriving DecidableEq
end Go.KP
end
section
namespace Go.KP
def V9 (p q:UInt8→Bool) (t:Tx):Bool:=(t.take 1).all p && t.all q
theorem a2d {p q:UInt8→Bool} (hpq:∀ c,p c=true→q c=true) (t:Tx) (i:Nat) (h:i < t.length):V9 p q (t.take (i+1))=(V9 p q (t.take i) && (if i=0 then p t[i] else q t[i])):=by
 unfold V9
 rw [Q4 t _ i h]
 by_cases hi:i=0
 · subst hi
   have:(t.take (0+1)).take 1=[t[0]]:=by
    cases t with
    | nil=>simp at h
    | cons c r=>simp
   rw [this]
   have:=hpq t[0]
   cases hp:p t[0]<;>simp_all
 · have e1:(t.take (i+1)).take 1=t.take 1:=by rw [List.take_take,Nat.min_eq_left (by omega)]
   have e2:(t.take i).take 1=t.take 1:=by rw [List.take_take,Nat.min_eq_left (by omega)]
   rw [e1,e2]
   simp [hi,Bool.and_assoc]
theorem a1m {p q:UInt8→Bool} (t:Tx) (i:Nat) (h:i < t.length) (hb:(if i=0 then p t[i] else q t[i])=false):V9 p q t=false:=by
 unfold V9
 by_cases hi:i=0
 · subst hi
   rw [if_pos rfl] at hb
   cases t with
   | nil=>simp at h
   | cons c r=>simp at hb;simp [hb]
 · rw [if_neg hi] at hb
   have:t.all q=false:=by rw [List.all_eq_false];exact ⟨t[i],List.getElem_mem h,by simp [hb]⟩
   simp [this]
def isUp (c:UInt8):Bool:=decide (65≤c.toNat∧c.toNat≤90)
def a0u (c:UInt8):Bool:=M7 c || isUp c || decide (c.toNat=95)
def a2i (c:UInt8):Bool:=a0u c || M3 c
def a0m (t:Tx):Bool:=decide (1≤t.length∧t.length≤12) && V9 a0u a2i t
def a1x (c:UInt8):Bool:=M7 c || decide (c.toNat=45)
def a1h (t:Tx):Bool:=decide (1≤t.length∧t.length≤24) && V9 M7 a1x t
def a1k (l:List Tx):Bool:=decide l.Nodup
theorem c0d (l:List Tx) (x:Tx):(l++[x]).Nodup↔l.Nodup∧x∉l:=by
 rw [List.nodup_append]
 constructor
 · rintro ⟨h1,_,h3⟩
   exact ⟨h1,fun hx=>h3 x hx x (by simp) rfl⟩
 · rintro ⟨h1,h2⟩
   refine ⟨h1,by simp,fun a ha b hb e=>?_⟩
   rw [List.mem_singleton] at hb
   subst hb;subst e
   exact h2 ha
theorem a2o (l:List Tx) (i:Nat) (h:i < l.length):a1k (l.take (i+1))=(a1k (l.take i) && decide (l[i]∉l.take i)):=by
 unfold a1k
 rw [List.take_add_one,List.getElem?_eq_getElem h,Bool.eq_iff_iff,Bool.and_eq_true,decide_eq_true_eq,decide_eq_true_eq,decide_eq_true_eq]
 exact c0d _ _
theorem b0u (l:List Tx) (i:Nat) (h:a1k (l.take i)=false):a1k l=false:=by
 unfold a1k at *
 rw [decide_eq_false_iff_not] at *
 exact fun hn=>h (hn.sublist (List.take_sublist i l))
def a0j {α:Type} (l:List α) (p:α→Bool):Int:=match l.findIdx? p with
 | some i=>i
 | none=>-1
theorem a4b {α:Type} (l:List α) (p:α→Bool):decide (0≤a0j l p)=l.any p:=by
 unfold a0j
 cases h:l.findIdx? p with
 | none=>
  rw [List.findIdx?_eq_none_iff] at h
  rw [Bool.eq_iff_iff]
  simp only [decide_eq_true_eq,List.any_eq_true]
  constructor
  · intro h;omega
  · rintro ⟨x,hx,hp⟩;rw [h x hx] at hp;cases hp
 | some i=>
  rw [List.findIdx?_eq_some_iff_getElem] at h
  obtain ⟨hi,hp,_⟩:=h
  show decide (0≤(i:Int))=_
  rw [decide_eq_true (by omega)]
  symm
  rw [List.any_eq_true]
  exact ⟨l[i],List.getElem_mem hi,hp⟩
theorem X9 {α:Type} {l:List α} {p:α→Bool} {i:Nat} (hi:i < l.length) (hp:p l[i]=true) (h:∀ k (hk:k < i),p (l[k]'(by omega))=false):a0j l p=i:=by
 unfold a0j
 have:l.findIdx? p=some i:=by
  rw [List.findIdx?_eq_some_iff_getElem]
  exact ⟨hi,hp,fun j hj=>by simp [h j hj]⟩
 rw [this]
theorem W3 {α:Type} {l:List α} {p:α→Bool} (h:∀ k (hk:k < l.length),p l[k]=false):a0j l p=-1:=by
 unfold a0j
 have:l.findIdx? p=none:=by
  rw [List.findIdx?_eq_none_iff]
  intro x hx
  obtain ⟨k,hk,rfl⟩:=List.getElem_of_mem hx
  exact h k hk
 rw [this]
theorem a94 {α:Type} (l:List α) (p:α→Bool):(a0j l p=-1∧l.find? p=none)∨∃ i,∃ h:i < l.length,a0j l p=i∧l.find? p=some l[i]:=by
 unfold a0j
 cases h:l.findIdx? p with
 | none=>
  rw [List.findIdx?_eq_none_iff] at h
  exact .inl ⟨rfl,List.find?_eq_none.2 fun x hx=>by simp [h x hx]⟩
 | some i=>
  rw [List.findIdx?_eq_some_iff_getElem] at h
  obtain ⟨hi,hp,hlt⟩:=h
  exact .inr ⟨i,hi,rfl,List.find?_eq_some_iff_getElem.2 ⟨hp,i,hi,rfl,fun j hj=>by simpa using hlt j hj⟩⟩
theorem a93 {α:Type} (f:α→Tx) (l:List α) (i:Nat) (h:i < l.length):a0j l (fun x=>decide (f x=f l[i]))=(i:Int)↔f l[i]∉(l.map f).take i:=by
 constructor
 · intro hl hm
   unfold a0j at hl
   rw [List.mem_take_iff_getElem] at hm
   obtain ⟨k,hk,hke⟩:=hm
   have hk1:k < i:=by omega
   rw [List.getElem_map] at hke
   split at hl
   · rename_i j hj
     have:j=i:=by omega
     subst this
     rw [List.findIdx?_eq_some_iff_getElem] at hj
     have:=hj.2.2 k hk1
     simp [hke] at this
   · omega
 · intro hm
   refine X9 h (by simp) fun k hk=>?_
   rw [decide_eq_false_iff_not]
   intro e
   exact hm (by rw [List.mem_take_iff_getElem];exact ⟨k,by simp;omega,by rw [List.getElem_map];exact e⟩)
theorem a5v {α β:Type} (f:β→α→β) (b:β) (l:List α) (i:Nat) (h:i < l.length):(l.take (i+1)).foldl f b=f ((l.take i).foldl f b) l[i]:=by
 rw [List.take_add_one,List.getElem?_eq_getElem h,List.foldl_append];rfl
def a74 (t:Tx):Option Tx:=
 if (A6 t).2 && Z1 (A6 t).1.scheme then some (W0 { (A6 t).1 with frag:=[],hasF:=false }) else none
theorem a9e {t:Tx} {c:UInt8} (h:c∈t):t.length=(j8 t c).length+1+(A3 t c).length:=by
 have:=U6.2 h
 unfold j8 A3
 simp;omega
theorem b70 (t:Tx):(Q0 t).length=t.length:=by simp [Q0]
theorem c38 {sc r:Tx} {p:Int} (h:a1l sc r=some p):r.length≤(j8 r 58).length+21:=by
 unfold a1l at h
 split at h
 · rename_i hm
   rw [a9e hm]
   split at h
   · rename_i n hn
     obtain ⟨_,_,u,_,_,h3,h4⟩:=a5g hn
     rcases h4 with ⟨h4,_⟩ | ⟨h4,_⟩
     · rw [h4];simp;omega
     · rw [h4];omega
   · cases h
 · rename_i hm
   rw [a0t hm];omega
theorem c0n {t:Tx} (h:(A6 t).2=true) (hw:Z1 (A6 t).1.scheme=true):t.length≤200:=by
 have hok:=a68 h
 have hlen:=b2m hok
 unfold A6 at h hw hlen
 split at h
 · rename_i h58
   rw [if_pos h58] at hw hlen
   dsimp only at h hw hlen
   split at h
   · rename_i hsc
     rw [if_pos hsc] at hw hlen
     split at h
     · rename_i h2
       rw [if_pos h2] at hw hlen
       rw [a9e h58]
       have hr:(A3 t 58).length≤2+((A3 t 58).drop 2).length:=by simp;omega
       have hscl:=b70 (j8 t 58)
       generalize (A3 t 58).drop 2=r0 at *
       generalize Q0 (j8 t 58)=sc at *
       unfold a39 at h hw hlen
       dsimp only at h hw hlen
       have k0:r0.length≤(j8 r0 35).length+(if 35∈r0 then 1+(A3 r0 35).length else 0):=by
        split
        · rename_i hm;rw [a9e hm];omega
        · rename_i hm;rw [a0t hm];omega
       generalize j8 r0 35=r1 at *
       have k1:r1.length≤(j8 r1 63).length+(if 63∈r1 then 1+(A3 r1 63).length else 0):=by
        split
        · rename_i hm;rw [a9e hm];omega
        · rename_i hm;rw [a0t hm];omega
       generalize j8 r1 63=r2 at *
       have k2:r2.length≤(j8 r2 47).length+(if 47∈r2 then r2.drop (J0 r2 47) else [47]).length:=by
        split
        · unfold j8;simp;omega
        · rename_i hm;rw [a0t hm];omega
       generalize (if 47∈r2 then r2.drop (J0 r2 47) else [47])=pa at *
       generalize j8 r2 47=r3 at *
       have k3:r3.length≤(if 64∈r3 then A3 r3 64 else r3).length+1+(if 64∈r3 then j8 r3 64 else []).length:=by
        split
        · rename_i hm;rw [a9e hm];omega
        · simp
       generalize (if 64∈r3 then A3 r3 64 else r3)=r4 at *
       generalize (if 64∈r3 then j8 r3 64 else [])=us at *
       cases hp:a1l sc r4 with
       | none=>rw [hp] at h;cases h
       | some p=>
        rw [hp] at hlen
        have k4:=c38 hp
        have k5:=b70 (j8 r4 58)
        dsimp only at hlen
        unfold W0 at hlen
        dsimp only at hlen
        rw [if_pos hsc] at hlen
        simp only [List.length_append,List.length_cons,List.length_nil] at hlen
        have q1:us.length≤(if us=[] then [] else us++[64]).length:=by split<;>simp_all
        have q2:(if 63∈r1 then 1+(A3 r1 63).length else 0)≤(if decide (63∈r1)=true then 63 :: A3 r1 63 else []).length:=by
         by_cases hm:63∈r1<;>simp [hm];omega
        have q3:(if 35∈r0 then 1+(A3 r0 35).length else 0)≤(if decide (35∈r0)=true then 35 :: A3 r0 35 else []).length:=by
         by_cases hm:35∈r0<;>simp [hm];omega
        omega
     · cases h
   · rename_i hsc
     rw [if_neg hsc] at hw
     exact absurd hw hsc
 · cases h
theorem b4e (t:Tx):a1t t=a74 t:=by
 unfold a1t a74
 by_cases hb:((A6 t).2 && Z1 (A6 t).1.scheme)=true
 · have h:=hb
   simp only [Bool.and_eq_true] at h
   have hl:=c0n h.1 h.2
   rw [if_pos (by omega),if_pos hb,if_pos hb]
   rw [a6d]
   exact (a6b (a68 h.1):0≤(A6 t).1.port)
 · rw [if_neg hb,if_neg hb];split<;>rfl
def a2k:Tx:=[114,101,112,111,114,116,45,116,111]
def a0s:Tx:=[114,101,112,111,114,116,45,117,114,105]
def X7 (w:Tx):Bool:=decide (w≠[]) && w.all fun c=>!decide (c.toNat=32∨c.toNat=9∨c.toNat=59)
def V0 (r:LRule):Bool:=a1h r.name && decide (r.words.length≤8) && r.words.all X7
def U5 (l:List LRule) (name:Tx):List Tx:=match l.find? (fun r=>decide (r.name=name)) with
 | some r=>r.words
 | none=>[]
def a3y (ws:List Tx):Tx:=match ws with
 | w :: _=>if a0m w then w else []
 | []=>[]
def a18 (l:List LRule):Tx:=a3y (U5 l a2k)
def P4 (acc:List Tx) (w:Tx):List Tx:=match a74 w with
 | some u=>if u∉acc∧acc.length < 4 then acc++[u] else acc
 | none=>acc
def a17 (l:List LRule):List Tx:=(U5 l a0s).foldl P4 []
theorem b6x (acc:List Tx) (w:Tx) (h:acc.length≤4):(P4 acc w).length≤4:=by
 unfold P4
 split
 · split
   · simp;omega
   · exact h
 · exact h
theorem a52:∀ (l:List Tx) (acc:List Tx),acc.length≤4→(l.foldl P4 acc).length≤4
 | [],_,h=>h
 | w :: l,acc,h=>a52 l _ (b6x acc w h)
def W2 (p:LPolicy):Bool:=
 decide (p.rules.length≤8) && (p.rules.all V0 && a1k (p.rules.map fun r=>r.name)) && (decide (p.reportTo=a18 p.rules) && decide (p.uris=a17 p.rules))
def a19 (g:LGroup):Bool:=
 a0m g.name && decide (1≤g.age∧g.age≤100) && decide (1≤g.targets.length∧g.targets.length≤4) && (g.targets.all N5 && a1k (g.targets.map fun t=>t.url))
end Go.KP
end
section
namespace Go.KP
theorem b5b (l:List LTarget):W7 l=a1k (l.map fun t=>t.url):=by
 have key:∀ i,i≤l.length→W7 (l.take i)=a1k ((l.map fun t=>t.url).take i):=by
  intro i
  induction i with
  | zero=>intro _;simp [W7,a1k,S5]
  | succ i ih=>
   intro hi
   rw [a8s l i (by omega),a2o _ i (by simp;omega),ih (by omega)]
   simp only [List.getElem_map,List.map_take]
 have:=key l.length (Nat.le_refl _)
 rw [List.take_length,List.take_of_length_le (by simp)] at this
 exact this
end Go.KP
end
section
namespace Go.KP
def Y4 (n:Nat) (p:Nat→Bool):Bool:=(List.range n).all p
theorem a0l (p:Nat→Bool):Y4 0 p=true:=rfl
theorem Z6 (p:Nat→Bool) (n:Nat):Y4 (n+1) p=(Y4 n p && p n):=by simp [Y4,List.range_succ]
theorem a3b {p:Nat→Bool} {n i:Nat} (hi:i < n) (h:p i=false):Y4 n p=false:=by
 unfold Y4
 rw [List.all_eq_false]
 exact ⟨i,List.mem_range.2 hi,by simp [h]⟩
def X2 (r:LReport):Bool:=decide (1≤r.id∧r.id≤1000000) && decide (0≤r.born∧r.born≤1000000) && decide (0≤r.tries∧r.tries≤3) && decide (1≤r.body.length∧r.body.length≤8000)
def a38 (l:List LReport) (i:Nat):Bool:=match l[i]? with
 | some r=>X2 r && (match i with
  | 0=>true
  | j+1=>match l[j]? with
   | some s=>decide (s.id < r.id) && decide (s.born≤r.born)
   | none=>true)
 | none=>true
theorem b18 {l:List LReport} (h:0 < l.length):a38 l 0=X2 l[0]:=by
 unfold a38
 rw [List.getElem?_eq_getElem h]
 simp
theorem b19 {l:List LReport} {j:Nat} (h:j+1 < l.length):a38 l (j+1)=(X2 l[j+1] && (decide (l[j].id < l[j+1].id) && decide (l[j].born≤l[j+1].born))):=by
 have e:=List.getElem?_eq_getElem (show j < l.length by omega)
 simp only [a38,List.getElem?_eq_getElem h,e]
def a7k (l:List Tx) (i:Nat):Bool:=match l[i]? with
 | some t=>decide (1≤t.length∧t.length≤8000) && decide (t∉l.take i)
 | none=>true
theorem b7b {l:List Tx} {i:Nat} (h:i < l.length):a7k l i=(decide (1≤l[i].length∧l[i].length≤8000) && decide (l[i]∉l.take i)):=by
 unfold a7k
 rw [List.getElem?_eq_getElem h]
def R2 (q:LQueue):Bool:=decide (q.items.length≤5) && decide (q.recent.length≤6) && (Y4 q.items.length (a38 q.items) && Y4 q.recent.length (a7k q.recent))
def P8 (next now:Int) (c:LChannel):Bool:=a19 c.group && X8 c.peers && decide (c.peers.map (fun p=>p.target)=c.group.targets) && R2 c.queue && c.queue.items.all fun r=>decide (r.id < next) && decide (r.born≤now)
def a6h (next:Int) (l:List Int) (i:Nat):Bool:=match l[i]? with
 | some r=>decide (1≤r∧r≤next - 1) && (match i with
  | 0=>true
  | j+1=>match l[j]? with
   | some s=>decide (s < r)
   | none=>true)
 | none=>true
theorem b4w {next:Int} {l:List Int} (h:0 < l.length):a6h next l 0=decide ((1:Int)≤l[0]∧l[0]≤next - 1):=by
 unfold a6h
 rw [List.getElem?_eq_getElem h]
 simp
theorem b4x {next:Int} {l:List Int} {j:Nat} (h:j+1 < l.length):a6h next l (j+1)=(decide ((1:Int)≤l[j+1]∧l[j+1]≤next - 1) && decide (l[j] < l[j+1])):=by
 have e:=List.getElem?_eq_getElem (show j < l.length by omega)
 simp only [a6h,List.getElem?_eq_getElem h,e]
def V8 (next now:Int) (w:LWire):Bool:=decide (0≤w.at_∧w.at_≤now) && decide (100≤w.status∧w.status≤599) && a0m w.group && decide (w.url.length≤100) && decide (1≤w.ids.length∧w.ids.length≤3) && decide (w.body.length≤65536) && Y4 w.ids.length (a6h next w.ids)
def a29 (next now:Int) (l:List LEntry) (i:Nat):Bool:=match l[i]? with
 | some x=>decide (1≤x.kind∧x.kind≤7) && decide (1≤x.id∧x.id≤next - 1) && decide ((match i with | 0=>0 | j+1=>match l[j]? with | some y=>y.at_ | none=>0)≤x.at_∧x.at_≤now)
 | none=>true
def a7t (l:List LEntry):Nat→Int
 | 0=>0
 | j+1=>match l[j]? with | some y=>y.at_ | none=>0
theorem a9k {next now:Int} {l:List LEntry} {i:Nat} (h:i < l.length):a29 next now l i=(decide (1≤l[i].kind∧l[i].kind≤7) && decide (1≤l[i].id∧l[i].id≤next - 1) && decide (a7t l i≤l[i].at_∧l[i].at_≤now)):=by
 unfold a29
 rw [List.getElem?_eq_getElem h]
 cases i<;>rfl
theorem a8h {l:List LEntry} {i:Nat} (h:i < l.length):a7t l (i+1)=l[i].at_:=by
 simp only [a7t,List.getElem?_eq_getElem h]
theorem a9j {next now:Int} {l:List LEntry}:∀ {i:Nat},i≤l.length→Y4 i (a29 next now l)=true→0≤a7t l i
 | 0,_,_=>Int.le_refl 0
 | i+1,hi,h=>by
  rw [Z6,Bool.and_eq_true] at h
  have ih:=a9j (i:=i) (by omega) h.1
  have h2:=h.2
  rw [a9k (by omega)] at h2
  simp only [Bool.and_eq_true,decide_eq_true_eq] at h2
  rw [a8h (by omega)]
  omega
def a2e (p:LPipe) (i:Nat):Bool:=match p.channels[i]? with
 | some c=>decide (c.group.name∉(p.channels.map fun c=>c.group.name).take i) && P8 p.next p.now c
 | none=>true
theorem a99 {p:LPipe} {i:Nat} (h:i < p.channels.length):a2e p i=(decide (p.channels[i].group.name∉(p.channels.map fun c=>c.group.name).take i) && P8 p.next p.now p.channels[i]):=by
 unfold a2e
 rw [List.getElem?_eq_getElem h]
def H4 (p:LPipe):Bool:=decide (p.channels.length≤5) && W2 p.policy && decide (0≤p.now∧p.now≤1000000) && decide (1≤p.next∧p.next≤1000000) && decide (p.log.length≤4096) && decide (p.wires.length≤4096) &&
 (Y4 p.channels.length (a2e p) && Y4 p.log.length (a29 p.next p.now p.log) && p.wires.all (V8 p.next p.now))
theorem a88 {q:LQueue} {i:Nat} (hi:i < q.items.length) (h:a38 q.items i=false):R2 q=false:=by
 unfold R2;rw [a3b hi h];simp
theorem a89 {q:LQueue} {i:Nat} (hi:i < q.recent.length) (h:a7k q.recent i=false):R2 q=false:=by
 unfold R2;rw [a3b hi h];simp
end Go.KP
end
section
namespace Go.PW
open Go.RowKit Go.KP
theorem u8_eq {a b:UInt8}:((a.toNat:Int)=(b.toNat:Int))↔a=b:=by
 constructor
 · intro h;exact UInt8.toNat_inj.1 (by omega)
 · rintro rfl;rfl
def rvb (c:UInt8):RV:=.int .u8 c.toNat
def tx (t:Tx):RV:=.str (bs t)
def num (n:Int):RV:=.int .i64 n
theorem b9k (l:Tx):W8 (l.map rvb)=bs l:=by
 unfold W8 bs
 congr 1
 congr 1
 rw [List.map_map]
 have:(RV.byte ∘ rvb)=id:=by
  funext c
  simp [rvb,RV.byte]
 rw [this];simp
theorem b49 {x:Int} (h1:0≤x) (h2:x < 256):IntKind.u8.wrap x=x:=by
 unfold IntKind.wrap
 simp [IntKind.bits,IntKind.signed]
 omega
def V7 (u:LUrl):RV:=.agg [tx u.scheme,tx u.user,tx u.host,num u.port,tx u.path,tx u.query,tx u.frag,.bool u.hasQ,.bool u.hasF]
end Go.PW
end
section
namespace Go.PW
open Go.RowKit Go.KP
variable [GF]
theorem b2b (φ:Nat→Option RV) (rs:List RV):PV.plL (PV.frzL φ (rs.map .val))=rs.map .val:=by
 induction rs with
 | nil=>rfl
 | cons r rs ih=>simp [PV.frzL,PV.plL,PV.frz,PV.pl,ih]
theorem c2b {st:St} {s n t id:Nat} {rs:List RV} {r:RV} (h1:st.env s=.ptr id 0) (h2:st.mem id=.box (rs.map .val)) (h3:rs.length=n) (h4:0 < n) (h5:st.env t=.val r) :
 a0e [.c s true n,.t t] st.fin=some (.tup [H0 (rs.map .val),.val r]):=by
 have e1:st.fin.env s=.ptr id 0:=by rw [M0,h1];simp [PV.frz,V2,h2,PV.pl]
 have e2:st.fin.mem id=.box (rs.map .val):=by
  simp only [St.fin,St.freeze,h2,MObj.pl,b2b]
 have e3:st.fin.env t=.val r:=by rw [M0,h5];rfl
 simp only [a0e,a56,b69,e1,e2,e3]
 simp only [List.length_map,h3,Nat.zero_add,List.drop_zero,if_true]
 rw [if_pos ⟨by omega,h4⟩,List.take_of_length_le (by simp [h3])]
 rfl
theorem a3s {st:St} {s n id:Nat} {rs:List RV} (h1:st.env s=.ptr id 0) (h2:st.mem id=.box (rs.map .val)) (h3:rs.length=n) (h4:0 < n) :
 a0e [.c s true n] st.fin=some (H0 (rs.map .val)):=by
 have e1:st.fin.env s=.ptr id 0:=by rw [M0,h1];simp [PV.frz,V2,h2,PV.pl]
 have e2:st.fin.mem id=.box (rs.map .val):=by
  simp only [St.fin,St.freeze,h2,MObj.pl,b2b]
 simp only [a0e,b69,e1,e2]
 simp only [List.length_map,h3,Nat.zero_add,List.drop_zero,if_true]
 rw [if_pos ⟨by omega,h4⟩,List.take_of_length_le (by simp [h3])]
def b0h (u:LUrl):List RV:=[tx u.scheme,tx u.user,tx u.host,num u.port,tx u.path,tx u.query,tx u.frag,.bool u.hasQ,.bool u.hasF]
def f7 (u:LUrl):List PV:=[.val (tx u.scheme),.val (tx u.user),.val (tx u.host),.val (num u.port),.val (tx u.path),.val (tx u.query),.val (tx u.frag),.val (.bool u.hasQ),.val (.bool u.hasF)]
theorem b0i (u:LUrl):f7 u=(b0h u).map .val:=rfl
def a4u (r:LUrl×Bool):PV:=.tup [.val (V7 r.1),.val (.bool r.2)]
theorem b4r (u:LUrl):H0 ((b0h u).map .val)=.val (V7 u):=by simp [b0h,H0,f9,V7]
theorem a57 {st:St} {s t id:Nat} {u:LUrl} {b:Bool} (h1:st.env s=.ptr id 0) (h2:st.mem id=.box (f7 u)) (h5:st.env t=.val (.bool b)):a0e [.c s true 9,.t t] st.fin=some (a4u (u,b)):=by
 rw [c2b (n:=9) (rs:=b0h u) h1 (by rw [h2,b0i]) rfl (by omega) h5,b4r]
 rfl
def i7 (x:LTarget):RV:=.agg [tx x.url,num x.prio,num x.weight]
def A7 (x:LPeer):RV:=.agg [tx x.target.url,num x.target.prio,num x.target.weight,num x.fails,num x.retry,.bool x.gone]
def M5 (l:List LPeer):RV:=.list 6 (l.map A7)
theorem a6u {P:Program} {st:St} {Ke:Kx (PV→St→Prop)} {kx:Kx (RV→St→Prop)} {d f ps as p} (ha:a3j st.mem ps=some as) (hb:boxIds ps=[]) (hs:∀ b,p.shift b=p) (ho:p.ownLt 0=true) (hr:ps.all PV.noOwn=true∨p.flat=true) (h:d8 P f as (.ret p []) []) (hK:Ke.k p st):KC P st d f ps (Ke:=Ke) (kx:=kx):=by
 refine a31 (K:=fun q st'=>q=p∧st'=st) (kx:=fun _ _=>False) (fun p s hh=>by obtain ⟨rfl,rfl⟩:=hh;exact hK) (fun _ _ hh=>hh.elim) (a4j ?_)
 unfold a3i
 rw [ha]
 exact ⟨hb,p,h,hs,ho,hr,rfl⟩
theorem V4 {P:Program} {st:St} {Ke:Kx (PV→St→Prop)} {kx:Kx (RV→St→Prop)} {d f ps as a b} (ha:a3j st.mem ps=some as) (hb:boxIds ps=[]) (hr:ps.all PV.noOwn=true∨(PV.tup [.val a,.val b]).flat=true) (h:d8 P f as (.ret (.tup [.val a,.val b]) []) []) (hK:Ke.k (.tup [.val a,.val b]) st):KC P st d f ps (Ke:=Ke) (kx:=kx):=
 a6u ha hb (fun _=>rfl) rfl hr h hK
theorem a0x {P:Program} {st:St} {Ke:Kx (PV→St→Prop)} {kx:Kx (RV→St→Prop)} {d f ps as a b c} (ha:a3j st.mem ps=some as) (hb:boxIds ps=[]) (hr:ps.all PV.noOwn=true∨(PV.tup [.val a,.val b,.val c]).flat=true) (h:d8 P f as (.ret (.tup [.val a,.val b,.val c]) []) []) (hK:Ke.k (.tup [.val a,.val b,.val c]) st):KC P st d f ps (Ke:=Ke) (kx:=kx):=
 a6u ha hb (fun _=>rfl) rfl hr h hK
end Go.PW
end
section
namespace Go.PW
open Go.RowKit Go.KP
variable [GF]
def RV.sv:RV→Option Value
 | .str s=>some (.string s)
 | .int k n=>some (.int k n)
 | .bool b=>some (.bool b)
 | _=>none
def svs:List RV→Option (List Value)
 | []=>some []
 | r :: rs=>match r.sv,svs rs with
  | some v,some vs=>some (v :: vs)
  | _,_=>none
theorem sv_rep {L:Nat→Prop} {w:World} {r:RV} {v u:Value} (h:r.sv=some v) (hr:RepR L w r u):u=v:=by
 cases hr with
 | bool b=>simpa [RV.sv] using h
 | int k n=>simpa [RV.sv] using h
 | str s=>simpa [RV.sv] using h
 | _=>simp [RV.sv] at h
theorem c17 {L:Nat→Prop} {w:World} {r:RV} {v:Value} (h:r.sv=some v):RepR L w r v:=by
 cases r with
 | bool b=>simp [RV.sv] at h;subst h;exact .bool b
 | int k n=>simp [RV.sv] at h;subst h;exact .int k n
 | str s=>simp [RV.sv] at h;subst h;exact .str s
 | _=>simp [RV.sv] at h
theorem b6o {L:Nat→Prop} {w:World}:∀ {rs:List RV} {vals vs:List Value} {ms:List Nat},svs rs=some vals→ArgsRep L w (rs.map .val) vs ms→vs=vals∧ms=[]
 | [],vals,vs,ms,h,hr=>by
  simp [svs] at h;subst h
  cases hr;exact ⟨rfl,rfl⟩
 | r :: rs,vals,vs,ms,h,hr=>by
  rw [List.map_cons] at hr
  cases hr with
  | cons _ _ v vs' ms1 ms2 h1 h2=>
   cases h1 with
   | val _ _ h1=>
    simp only [svs] at h
    split at h
    · rename_i v' vs'' e1 e2
      obtain ⟨rfl,rfl⟩:=b6o e2 h2
      have:=sv_rep e1 h1
      subst this
      have:=Option.some.inj h
      exact ⟨this,rfl⟩
    · cases h
theorem b0s {F:Ctx} {γ:Nat→Value} {w:World}:MemInv F γ (L8 []) w:=
 ⟨fun id cs h=>by simp [L8] at h,fun id E sz xs h=>by simp [L8] at h,fun id E sz n c h=>by simp [L8] at h,fun id s clk m h=>by simp [L8] at h,fun id id' b h=>by simp [L8,MObj.live] at h⟩
theorem b44 {P:Program} {f:Nat} {rs:List RV} {vals:List Value} {p:PV} {v:Value} (ha:svs rs=some vals) (hp:∀ γ L w,RepP γ L w p v)
 (h:∀ L w,Globs L w→b4l L w→Calls P f vals.toArray w fun e w'=>e=.returned v∧Below w.heap.size w w'):d8 P f (rs.map .val) (.ret p []) []:=by
 intro L w vs ms hL hgl hgb hargs hnd
 obtain ⟨rfl,rfl⟩:=b6o ha hargs
 refine (h L w hgl hgb).mono fun e w' ⟨he,hb⟩=>?_
 exact ⟨Outside.of_below hb,v,fun _=>undef,he,hp _ _ _,b0s,rfl,fun i b cells h1 h2=>by simp at h1⟩
theorem a1u {P:Program} {f:Nat} {rs:List RV} {vals:List Value} {r:RV} {v:Value} (ha:svs rs=some vals) (hv:r.sv=some v)
 (h:∀ L w,Globs L w→b4l L w→Calls P f vals.toArray w fun e w'=>e=.returned v∧Below w.heap.size w w'):d8 P f (rs.map .val) (.ret (.val r) []) []:=
 b44 ha (fun γ L w=>.val _ _ (c17 hv)) h
theorem b1z:∀ {rs:List RV} {vals:List Value},svs rs=some vals→vals.length=rs.length
 | [],vals,h=>by simp [svs] at h;subst h;rfl
 | r :: rs,vals,h=>by
  simp only [svs] at h
  split at h
  · rename_i v vs e1 e2
    have:=b1z e2
    have h:=Option.some.inj h
    subst h;simp [this]
  · cases h
theorem b6y {L:Nat→Prop} {w:World}:∀ {rs:List RV} {vals:List Value},svs rs=some vals→∀ i,i < rs.length→RepR L w (rs.getD i .nilptr) (vals.getD i undef)
 | [],vals,h,i,hi=>by simp at hi
 | r :: rs,vals,h,i,hi=>by
  simp only [svs] at h
  split at h
  · rename_i v vs e1 e2
    have h:=Option.some.inj h
    subst h
    cases i with
    | zero=>simpa using c17 e1
    | succ i=>simpa using b6y e2 i (by simpa using hi)
  · cases h
theorem b3j {P:Program} {f:Nat} {rs:List RV} {vals:List Value} {qs:List RV} {us:List Value} (ha:svs rs=some vals) (hv:svs qs=some us)
 (h:∀ L w,Globs L w→b4l L w→Calls P f vals.toArray w fun e w'=>e=.returned (.tuple us.toArray)∧Below w.heap.size w w'):d8 P f (rs.map .val) (.ret (.tup (qs.map .val)) []) []:=
 b44 ha (fun γ L w=>.tup _ _ (by simp [b1z hv]) fun i hi=>by
  have hi':i < qs.length:=by simpa using hi
  have e1:(qs.map PV.val).getD i .undef=.val (qs.getD i .nilptr):=by simp [List.getD_eq_getElem?_getD,List.getElem?_eq_getElem hi']
  have e2:us.toArray.getD i undef=us.getD i undef:=by simp [List.getD_eq_getElem?_getD,Array.getD_eq_getD_getElem?]
  rw [e1,e2]
  exact .val _ _ (b6y hv i hi')) h
theorem a34 {w w':World} (h:w'=w):Below w.heap.size w w':=by subst h;exact Below.refl _ _
end Go.PW
end
section
namespace Go.PW
open Go.RowKit Go.KP
variable [GF]
def a11 (M:Nat→MObj):List Nat→List (List RV)→Prop
 | [],[]=>True
 | id :: ids,b :: bs=>M id=.box (b.map .val)∧a11 M ids bs
 | _,_=>False
def P9 (M:Nat→MObj):Nat→List (List RV)→Prop
 | _,[]=>True
 | k,b :: bs=>M (900+k)=.box (b.map .val)∧P9 M (k+1) bs
theorem a7j:∀ {M:Nat→MObj} {ids:List Nat} {B:List (List RV)},a11 M ids B→T6 M ids B=M
 | M,[],[],_=>rfl
 | M,id :: ids,b :: bs,h=>by
  have e:upd id (.box (b.map .val)) M=M:=by
   funext x
   by_cases hx:x=id
   · subst hx;rw [Q1,h.1]
   · rw [S2 _ _ _ _ hx]
  simp only [T6]
  rw [e]
  exact a7j h.2
 | M,[],_ :: _,h=>h.elim
 | M,_ :: _,[],h=>h.elim
theorem b4n:∀ {M:Nat→MObj} {ids:List Nat} {B:List (List RV)},a11 M ids B→B.length=ids.length
 | M,[],[],_=>rfl
 | M,id :: ids,b :: bs,h=>by simp [b4n h.2]
 | M,[],_ :: _,h=>h.elim
 | M,_ :: _,[],h=>h.elim
theorem c58 (b:List RV):t8 (b.map .val)=some b:=by
 induction b with
 | nil=>rfl
 | cons r b ih=>simp [t8,ih]
theorem a9n {st:St}:∀ {k:Nat} {B:List (List RV)},P9 st.mem k B→a41 st.fin k B
 | k,[],_=>trivial
 | k,b :: B,h=>by
  have e2:st.fin.mem (900+k)=.box (b.map .val):=by
   simp only [St.fin,St.freeze,h.1,MObj.pl,b2b]
  exact ⟨by rw [e2];exact c58 b,a9n h.2⟩
def RetB (res:List Rs) (p:PV) (B:List (List RV)):PExit→St→Prop
 | .normal,st=>a0e res st.fin=some p∧P9 st.mem 0 B
 | .ret,st=>a0e res st.fin=some p∧P9 st.mem 0 B
 | _,_=>False
@[simp] theorem Q8 {res p B} {st:St}:RetB res p B .ret st=(a0e res st.fin=some p∧P9 st.mem 0 B):=by rfl
@[simp] theorem RetB_normal {res p B} {st:St}:RetB res p B .normal st=(a0e res st.fin=some p∧P9 st.mem 0 B):=by rfl
theorem T2 {P:Program} {f:Nat} {c:PC} {res:List Rs} {as:List AV} {p:PV} {B:List (List RV)} (hm:P.follows .mixedOrders=true) (hc:j3 P f c as.length res=true) (hb:b8 as=B) (hp:∀ ι,p.ren ι=p)
 (h:a0d P c (d9 as) (RetB res p B)):d8 P f as (.ret p []) B:=by
 refine b6j hm hc (V5 (fun e s hh=>?_) h)
 have key:a0e res s.fin=some p∧P9 s.mem 0 B→∃ st',Le s st'∧b9p res (b8 as).length (.ret p []) B .ret st':=fun hh=>
  ⟨s.fin,(Le.freeze s _).trans (Le.plain _),(by rw [hb]),⟨⟨id,by rw [hp];exact hh.1,fun i j hi=>by simp at hi,fun i r hr=>by simp at hr⟩,a9n hh.2⟩⟩
 cases e with
 | normal=>exact key hh
 | ret=>exact key hh
 | exit id=>exact hh.elim
 | pan r=>exact hh.elim
theorem b50 (st:St):st.kill (fun _=>false)=st:=by
 cases st with
 | mk env mem=>
  simp only [St.kill,PV.kill_none]
  congr 1
  funext x
  cases mem x with
  | dead=>rfl
  | row E sz xs=>rfl
  | box cs=>simp [MObj.kill,PV.killL_none]
  | prow E sz n c=>simp [MObj.kill,PV.kill_none]
  | map s clk m => 
   have:(fun k=>(m k).map fun p=>(p.1.kill fun _=>false,p.2))=m:=by funext k;cases m k<;>simp [PV.kill_none]
   simp only [MObj.kill,this];rfl
theorem S3 {P:Program} {st:St} {Ke:Kx (PV→St→Prop)} {kx:Kx (RV→St→Prop)} {d f ps as r ids B} (ha:a3j st.mem ps=some as) (hb:boxIds ps=ids) (hn:ids.Nodup) (hlt:ids.all (· < L9 d)=true) (hB:a11 st.mem ids B) (hr:ps.all PV.noOwn=true)
 (h:d8 P f as (.ret (.val r) []) B) (hK:Ke.k (.val r) st):KC P st d f ps (Ke:=Ke) (kx:=kx):=by
 unfold KC
 refine .inl ?_
 unfold a6v
 rw [ha]
 refine ⟨by rw [hb];exact hn,by rw [hb];exact hlt,.ret (.val r) [],B,h,by rw [hb];exact b4n hB,rfl,.inl hr,?_⟩
 have e:(fun i=>decide (L9 d≤i) && decide (i < L9 d+([]:List Row).length))=fun _=>false:=by
  funext i
  simp only [List.length_nil,Nat.add_zero,Bool.and_eq_false_imp,decide_eq_true_eq,decide_eq_false_iff_not]
  omega
 rw [e,b50]
 simp only [a2v,hb]
 rw [a7j hB]
 exact hK
end Go.PW
end
section
namespace Go.PW
open Go.RowKit Go.KP
def a0i {α:Type} (r:α→RV) (z:RV) (l:List α) (i:Nat):List RV:=(l.take i).map r++List.replicate (l.length - i) z
theorem a00 {α:Type} (r:α→RV) (z:RV) (l:List α):a0i r z l 0=List.replicate l.length z:=by simp [a0i]
theorem a16 {α:Type} (r:α→RV) (z:RV) (l:List α):a0i r z l l.length=l.map r:=by simp [a0i]
theorem a15 {α:Type} (r:α→RV) (z:RV) (l:List α) (i:Nat) (h:i≤l.length):(a0i r z l i).length=l.length:=by simp [a0i];omega
theorem a14 {α:Type} (r:α→RV) (z:RV) (l:List α) (i:Nat) (h:i < l.length):(a0i r z l i).set i (r l[i])=a0i r z l (i+1):=by
 unfold a0i
 have h1:l.length - i=(l.length - (i+1))+1:=by omega
 have h2:((l.take i).map r).length=i:=by simp;omega
 rw [h1,List.replicate_succ,List.set_append_right _ _ (by omega),h2,Nat.sub_self,List.set_cons_zero]
 rw [List.take_add_one,List.getElem?_eq_getElem h,List.map_append,List.append_assoc]
 rfl
theorem a3k {α:Type} (r:α→RV) (z:RV) (l:List α) (i:Nat) (h:i < l.length):(a0i r z l i)[i]?.getD .nilptr=z:=by
 unfold a0i
 have h1:l.length - i=(l.length - (i+1))+1:=by omega
 have h2:((l.take i).map r).length=i:=by simp;omega
 rw [h1,List.replicate_succ,List.getElem?_append_right (by omega),h2]
 simp
def W5 (o:Option Tx):PV:=.tup [.val (tx (o.getD [])),.val (.bool o.isSome)]
theorem b5f [GF] {st:St} {s n id:Nat} {cs:List PV} {rs:List RV} (h1:st.env s=.ptr id 0) (h2:st.mem id=.box cs) (hz:PV.plL (PV.frzL (V2 st fun _=>true) cs)=rs.map .val) (h3:rs.length=n) (h4:0 < n) :
 a0e [.c s true n] st.fin=some (H0 (rs.map .val)):=by
 have e1:st.fin.env s=.ptr id 0:=by rw [M0,h1];simp [PV.frz,V2,h2,PV.pl]
 have e2:st.fin.mem id=.box (rs.map .val):=by
  simp only [St.fin,St.freeze,h2,MObj.pl]
  rw [hz]
 simp only [a0e,b69,e1,e2]
 simp only [List.length_map,h3,Nat.zero_add,List.drop_zero,if_true]
 rw [if_pos ⟨by omega,h4⟩,List.take_of_length_le (by simp [h3])]
def c2h {α:Type} (sz id:Nat):List α→PV
 | []=>.emp sz
 | _ :: _=>.own id
def c6h {α:Type} (E sz:Nat) (r:α→RV):List α→MObj
 | []=>.dead
 | x :: xs=>.row E sz ((x :: xs).map r)
@[simp] theorem c31 {α:Type} (sz id:Nat):c2h sz id ([]:List α)=.emp sz:=rfl
@[simp] theorem ownOr_cons {α:Type} (sz id:Nat) (x:α) (xs:List α):c2h sz id (x :: xs)=.own id:=rfl
@[simp] theorem rowOr_nil {α:Type} (E sz:Nat) (r:α→RV):c6h E sz r []=.dead:=rfl
@[simp] theorem rowOr_cons {α:Type} (E sz:Nat) (r:α→RV) (x:α) (xs:List α):c6h E sz r (x :: xs)=.row E sz (r x :: xs.map r):=rfl
theorem Le.mkD [GF] {st:St} (le:List (Nat×PV)) (lm:List (Nat×MObj)) (h1:∀ kp∈le,st.env kp.1=kp.2) (h2:∀ kp∈lm,kp.2=.dead∨st.mem kp.1=kp.2):Le st ⟨l8 le,l9 lm⟩:=by
 refine Le.drop (fun i=>?_) (fun x=>?_)
 · show l9 lm i=st.mem i∨l9 lm i=.dead
   induction lm with
   | nil=>exact .inr rfl
   | cons kp lm ih=>
    obtain ⟨k,o⟩:=kp
    simp only [l9]
    split
    · rename_i e;subst e
      rcases h2 (i,o) (by simp) with h | h
      · exact .inr h
      · exact .inl h.symm
    · exact ih fun kp hkp=>h2 kp (by simp [hkp])
 · show Wk (st.env x) (l8 le x)
   induction le with
   | nil=>exact .undef _
   | cons kp le ih=>
    obtain ⟨k,p⟩:=kp
    simp only [l8]
    split
    · rename_i e;subst e;rw [h1 (x,p) (by simp)];exact .refl p
    · exact ih fun kp hkp=>h1 kp (by simp [hkp])
@[simp] theorem rvTarget_len (x:LTarget):(i7 x).cells.length=3:=rfl
@[simp] theorem rvPeer_len (x:LPeer):(A7 x).cells.length=6:=rfl
def H1 (x:LGroup):RV:=.agg [tx x.name,num x.age,.list 3 (x.targets.map i7)]
@[simp] theorem rvGroup_len (x:LGroup):(H1 x).cells.length=3:=rfl
def j9 (x:LRule):RV:=.agg [tx x.name,.list 1 (x.words.map tx)]
@[simp] theorem rvRule_len (x:LRule):(j9 x).cells.length=2:=rfl
def k8 (x:LPolicy):RV:=.agg [tx x.reportTo,.list 1 (x.uris.map tx),.list 2 (x.rules.map j9)]
@[simp] theorem rvPolicy_len (x:LPolicy):(k8 x).cells.length=3:=rfl
def b66 (x:LViolation):RV:=.agg [tx x.document,tx x.referrer,tx x.blocked,tx x.source,tx x.directive,tx x.sample,num x.line,num x.column,.bool x.redirected]
@[simp] theorem c5z (x:LViolation):(b66 x).cells.length=9:=rfl
def j5 (x:LReport):RV:=.agg [num x.id,num x.born,num x.tries,tx x.body]
@[simp] theorem rvReport_len (x:LReport):(j5 x).cells.length=4:=rfl
def A4 (x:LQueue):RV:=.agg [.list 4 (x.items.map j5),.list 1 (x.recent.map tx)]
@[simp] theorem rvQueue_len (x:LQueue):(A4 x).cells.length=2:=rfl
def i8 (x:LChannel):RV:=.agg [tx x.group.name,num x.group.age,.list 3 (x.group.targets.map i7),.list 6 (x.peers.map A7),.list 4 (x.queue.items.map j5),.list 1 (x.queue.recent.map tx)]
@[simp] theorem rvChannel_len (x:LChannel):(i8 x).cells.length=6:=rfl
def u1 (x:LEntry):RV:=.agg [num x.kind,num x.id,num x.at_]
@[simp] theorem rvEntry_len (x:LEntry):(u1 x).cells.length=3:=rfl
def u4 (x:LWire):RV:=.agg [num x.at_,num x.status,tx x.group,tx x.url,.list 1 (x.ids.map num),tx x.body,.bool x.lost]
@[simp] theorem rvWire_len (x:LWire):(u4 x).cells.length=7:=rfl
def u0 (x:LPipe):RV:=.agg [.list 6 (x.channels.map i8),tx x.policy.reportTo,.list 1 (x.policy.uris.map tx),.list 2 (x.policy.rules.map j9),num x.now,num x.next,.list 3 (x.log.map u1),.list 7 (x.wires.map u4)]
@[simp] theorem rvPipe_len (x:LPipe):(u0 x).cells.length=8:=rfl
def rvEvent (x:LEvent):RV:=.agg [num x.kind,num x.draw,num x.status,num x.ticks,tx x.text,tx x.name,tx x.violation.document,tx x.violation.referrer,tx x.violation.blocked,tx x.violation.source,tx x.violation.directive,tx x.violation.sample,num x.violation.line,num x.violation.column,.bool x.violation.redirected,.bool x.lost]
@[simp] theorem rvEvent_len (x:LEvent):(rvEvent x).cells.length=16:=rfl
def c6g (x:LParcel):RV:=.agg [num x.id,num x.age,tx x.body]
@[simp] theorem rvParcel_len (x:LParcel):(c6g x).cells.length=3:=rfl
def rvBox (x:LBox):RV:=.agg [.list 1 (x.ids.map num),.list 1 (x.times.map num),.list 1 (x.bodies.map tx)]
@[simp] theorem rvBox_len (x:LBox):(rvBox x).cells.length=3:=rfl
end Go.PW
end
section
namespace Go.KP
end Go.KP
end
section
namespace Go.KP
end Go.KP
end
section
namespace Go.KP
def a5f (out:List Int) (x:Int):Nat→Nat
 | 0=>0
 | n+1=>if x < out.getD n 0 then a5f out x n else n+1
theorem c2o (out:List Int) (x:Int):∀ n,a5f out x n≤n
 | 0=>Nat.le_refl _
 | n+1=>by unfold a5f;split;(have:=c2o out x n;omega);omega
theorem b2o (out:List Int) (x:Int):∀ n i,a5f out x n≤i→i < n→x < out.getD i 0
 | 0,i,_,h=>by omega
 | n+1,i,h1,h2=>by
  unfold a5f at h1
  split at h1
  · rename_i h
    by_cases hi:i=n
    · rw [hi];exact h
    · exact b2o out x n i h1 (by omega)
  · omega
theorem b2n (out:List Int) (x:Int):∀ n,0 < a5f out x n→out.getD (a5f out x n - 1) 0≤x
 | 0,h=>by simp [a5f] at h
 | n+1,h=>by
  unfold a5f at h ⊢
  split
  · rename_i hx;rw [if_pos hx] at h;exact b2n out x n h
  · rename_i hx;simpa using hx
def a5e (out:List Int) (x:Int):List Int:=out.take (a5f out x out.length)++[x]++out.drop (a5f out x out.length)
theorem c36 (out:List Int) (x:Int):(a5e out x).Perm (x :: out):=by
 unfold a5e
 rw [List.append_assoc]
 refine (List.perm_middle).trans ?_
 show (x :: (out.take (a5f out x out.length)++out.drop (a5f out x out.length))).Perm _
 rw [List.take_append_drop]
theorem b7u (out:List Int) (x:Int) (h:out.Pairwise (·≤·)):(a5e out x).Pairwise (·≤·):=by
 have hat:∀ i j,i < j→j < out.length→out.getD i 0≤out.getD j 0:=fun i j hij hj=>by
  have:=List.pairwise_iff_getElem.1 h i j (by omega) hj hij
  simpa [List.getD_eq_getElem?_getD,List.getElem?_eq_getElem hj,List.getElem?_eq_getElem (show i < out.length by omega)] using this
 unfold a5e
 generalize hn:a5f out x out.length=n
 have hle:n≤out.length:=hn ▸ c2o out x out.length
 have lo:∀ a∈out.take n,a≤x:=fun a ha=>by
  obtain ⟨i,hi,rfl⟩:=List.mem_iff_getElem.1 ha
  rw [List.length_take] at hi
  have h1:=b2n out x out.length (by rw [hn];omega)
  rw [hn] at h1
  have h2:out.getD i 0≤out.getD (n - 1) 0:=by
   by_cases he:i=n - 1
   · rw [he];exact Int.le_refl _
   · exact hat i (n - 1) (by omega) (by omega)
  have h3:out.getD i 0=out[i]'(by omega):=by simp [List.getD_eq_getElem?_getD,List.getElem?_eq_getElem (show i < out.length by omega)]
  rw [List.getElem_take]
  omega
 have hi:∀ b∈out.drop n,x≤b:=fun b hb=>by
  obtain ⟨i,hi,rfl⟩:=List.mem_iff_getElem.1 hb
  rw [List.length_drop] at hi
  have h1:=b2o out x out.length (n+i) (by rw [hn];omega) (by omega)
  have h3:out.getD (n+i) 0=out[n+i]'(by omega):=by simp [List.getD_eq_getElem?_getD,List.getElem?_eq_getElem (show n+i < out.length by omega)]
  rw [List.getElem_drop]
  omega
 rw [List.append_assoc,List.pairwise_append]
 refine ⟨h.sublist (List.take_sublist _ _),?_,fun a ha b hb=>?_⟩
 · rw [List.singleton_append,List.pairwise_cons]
   exact ⟨hi,h.sublist (List.drop_sublist _ _)⟩
 · rcases List.mem_cons.1 hb with rfl | hb
   · exact lo a ha
   · exact Int.le_trans (lo a ha) (hi b hb)
theorem a5d:∀ (l out:List Int),(l.foldl a5e out).Perm (l++out)
 | [],out=>List.Perm.refl _
 | x :: l,out=>(a5d l (a5e out x)).trans (((c36 out x).append_left l).trans List.perm_middle)
theorem a9a:∀ (l out:List Int),out.Pairwise (·≤·)→(l.foldl a5e out).Pairwise (·≤·)
 | [],out,h=>h
 | x :: l,out,h=>a9a l (a5e out x) (b7u out x h)
theorem c0m (l:List Int):l.foldl a5e []=l.mergeSort fun x y=>decide (x≤y):=by
 refine List.Perm.eq_of_pairwise (le:=(·≤·)) (fun a b _ _ h1 h2=>Int.le_antisymm h1 h2) (a9a l [] List.Pairwise.nil) ?_ ?_
 · have:=List.pairwise_mergeSort (le:=fun x y:Int=>decide (x≤y)) (fun a b c h1 h2=>by simp at *;omega) (fun a b=>by simp;omega) l
   exact this.imp fun h=>by simpa using h
 · have:=a5d l []
   rw [List.append_nil] at this
   exact this.trans (List.mergeSort_perm l _).symm
def a0b (l:List LReport):List Int:=l.map fun r=>r.id
def a2w (p:LPipe):List Int:=p.channels.flatMap fun c=>a0b c.queue.items
def a5h (cs:List LChannel):List Int:=cs.foldl (fun o c=>(a0b c.queue.items).foldl a5e o) []
theorem b4t (cs:List LChannel) (k:Nat) (h:k < cs.length):a5h (cs.take (k+1))=(a0b cs[k].queue.items).foldl a5e (a5h (cs.take k)):=by
 unfold a5h
 rw [List.take_add_one,List.getElem?_eq_getElem h,List.foldl_append];rfl
theorem b4u (p:LPipe):a5h p.channels=(a2w p).mergeSort fun x y=>decide (x≤y):=by
 rw [← c0m]
 unfold a5h a2w
 generalize ([]:List Int)=o
 generalize p.channels=cs
 induction cs generalizing o with
 | nil=>rfl
 | cons c cs ih=>rw [List.foldl_cons,List.flatMap_cons,List.foldl_append,ih]
end Go.KP
end
