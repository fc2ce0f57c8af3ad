/- Ac: merged out of KPa, KPb, KPc, KPd, KPe, KPf, KPg, KPh, KPi, KPj, KPk, KPl, KPm, KPn, KPo, KQa, KRa, KLa, KRb, KRc, KPp, KPq, KPs, KPt, KPu, KPv, KPw. -/
import Derived.Test.YtapjdgcfakhpaaaGreatDoorPWv
set_option linter.unusedSectionVars false
set_option linter.unusedSimpArgs false
set_option linter.unusedVariables false
section
namespace Go.KP
abbrev Tx:=List UInt8
def P9 (c:UInt8):Bool:=decide (97≤c.toNat∧c.toNat≤122)
def P7 (c:UInt8):Bool:=decide (48≤c.toNat∧c.toNat≤57)
def c1h (c:UInt8):UInt8:=if 65≤c.toNat∧c.toNat≤90 then c+32 else c
def R8 (t:Tx):Tx:=t.map c1h
def N3 (t:Tx) (c:UInt8):Nat:=t.findIdx (· == c)
def Y3 (t wo:Tx):Bool:=t.all fun c=>decide (33≤c.toNat∧c.toNat≤126) && !decide (c∈wo)
def a7o:Tx:=[104,116,116,112]
def a99:Tx:=[104,116,116,112,115]
def a0x (s:Tx):Bool:=s == a7o || s == a99
def X0 (c:UInt8):Bool:=P9 c || P7 c || decide (c.toNat=45∨c.toNat=43∨c.toNat=46)
def a4w (t:Tx):Bool:=(t.take 1).all P9 && t.all X0
def W3 (t:Tx):Bool:=decide (1≤t.length∧t.length≤12) && a4w t
def U7:Bool→Tx→Bool
 | last,[]=>!last
 | last,c :: r=>if !(P9 c || P7 c) && (last || !decide (c.toNat=45∨c.toNat=46)) then false else U7 (!(P9 c || P7 c)) r
def a2i (t:Tx):Bool:=U7 true t
def a02 (s:Tx):Int:=if s=a7o then 80 else 443
def a23 (n:Nat):Tx:=if h:n < 10 then [UInt8.ofNat (48+n)] else a23 (n / 10)++[UInt8.ofNat (48+n % 10)]
termination_by n
decreasing_by omega
theorem c1l (t:Tx) (c:UInt8) (i:Nat) (hi:i≤t.length) (h:∀ k,k < i→t.getD k 0≠c) (h':i=t.length∨t.getD i 0=c):N3 t c=i:=by
 unfold N3
 by_cases hl:i < t.length
 · rw [List.findIdx_eq hl]
   refine ⟨?_,fun j hj=>?_⟩
   · rcases h' with h' | h'
     · omega
     · simpa [List.getD_eq_getElem?_getD,List.getElem?_eq_getElem hl] using h'
   · have:=h j hj
     have hjl:j < t.length:=by omega
     simpa [List.getD_eq_getElem?_getD,List.getElem?_eq_getElem hjl] using this
 · have e:i=t.length:=by omega
   subst e
   rw [List.findIdx_eq_length]
   intro x hx
   obtain ⟨j,hj,rfl⟩:=List.getElem_of_mem hx
   have:=h j hj
   simpa [List.getD_eq_getElem?_getD,List.getElem?_eq_getElem hj] using this
theorem a1j (t:Tx) (c:UInt8):N3 t c≤t.length:=List.findIdx_le_length
theorem W8 {t:Tx} {c:UInt8}:N3 t c < t.length↔c∈t:=by
 unfold N3
 rw [List.findIdx_lt_length]
 constructor
 · rintro ⟨x,hx,h⟩;have:x=c:=by simpa using h
   exact this ▸ hx
 · intro h;exact ⟨c,h,by simp⟩
theorem a42 {α:Type} (t:List α) (i:Nat) (d:α) (h:i < t.length):t.getD i d=t[i]:=by simp [List.getD_eq_getElem?_getD,List.getElem?_eq_getElem h]
theorem b7y {α:Type} (t:List α) (i:Nat) (d:α) (h:i < t.length):t.take (i+1)=t.take i++[t.getD i d]:=by
 rw [List.take_add_one,List.getElem?_eq_getElem h,a42 t i d h];rfl
theorem a2b {n:Nat} (h:n < 10):a23 n=[UInt8.ofNat (48+n)]:=by rw [a23];simp [h]
theorem a41 {n:Nat} (h:¬ n < 10):a23 n=a23 (n / 10)++[UInt8.ofNat (48+n % 10)]:=by rw [a23];simp [h]
theorem d0j (n:Nat):(a23 n).length≤n+1:=by
 induction n using Nat.strongRecOn with
 | ind n ih=>
  by_cases h:n < 10
  · rw [a2b h];simp
  · rw [a41 h]
    have:=ih (n / 10) (by omega)
    simp;omega
theorem a5h:∀ (k n:Nat),n < 10 ^ (k+1)→(a23 n).length≤k+1
 | 0,n,h=>by rw [a2b (by simpa using h)];simp
 | k+1,n,h=>by
  by_cases hn:n < 10
  · rw [a2b hn];simp
  · rw [a41 hn]
    have:=a5h k (n / 10) (by rw [Nat.div_lt_iff_lt_mul (by omega)];rw [Nat.pow_succ] at h;exact h)
    simp;omega
def a0y (n:Int):Tx:=if n < 0 then 45 :: a23 (-n).toNat else a23 n.toNat
def V9 (t:Tx):Nat:=t.foldl (fun n c=>n*10+(c.toNat - 48)) 0
def a32 (neg:Bool) (t:Tx):Bool:=decide (t.length=0∨18 < t.length) || (decide ((t.getD 0 0).toNat=48) && (decide (1 < t.length) || neg))
def a2h (neg:Bool) (t:Tx):Option Int:=if a32 neg t then none else if t.all P7 then some (if neg then - (V9 t:Int) else (V9 t:Int)) else none
def X3 (t:Tx):Option Int:=match t with
 | []=>none
 | c :: r=>if c=45 then a2h true r else a2h false (c :: r)
theorem a9i (t:Tx) (c:UInt8):V9 (t++[c])=V9 t*10+(c.toNat - 48):=by simp [V9]
theorem b4c (t:Tx) (h:t.all P7=true):V9 t < 10 ^ t.length:=by
 have key:∀ (k:Nat) (t:Tx),t.length=k→t.all P7=true→V9 t < 10 ^ t.length:=by
  intro k
  induction k with
  | zero=>intro t ht _;have:t=[]:=List.eq_nil_of_length_eq_zero ht;subst this;decide
  | succ k ih=>
   intro t ht ha
   obtain ⟨r,c,rfl⟩:∃ r c,t=r++[c]:=⟨t.dropLast,t.getLast (by intro e;subst e;simp at ht),(List.dropLast_concat_getLast _).symm⟩
   simp only [List.all_append,Bool.and_eq_true] at ha
   have h1:=ih r (by simpa using ht) ha.1
   have h2:P7 c=true:=by simpa using ha.2
   simp [P7] at h2
   rw [a9i]
   simp only [List.length_append,List.length_singleton,Nat.pow_succ]
   omega
 exact key t.length t rfl h
theorem S4 {α:Type} (t:List α) (p:α→Bool) (i:Nat) (h:i < t.length):(t.take (i+1)).all p=((t.take i).all p && p t[i]):=by
 rw [List.take_add_one,List.getElem?_eq_getElem h,List.all_append];simp
theorem b27 (t:Tx) (i:Nat) (h:i < t.length):a4w (t.take (i+1))=(a4w (t.take i) && (if i=0 then P9 t[i] else X0 t[i])):=by
 unfold a4w
 rw [S4 t _ i h]
 by_cases hi:i=0
 · subst hi
   have:(t.take (0+1)).take 1=[t[0]]:=by
    cases t with
    | nil=>simp at h
    | cons c r=>simp
   rw [this]
   simp [X0]
   cases P9 t[0]<;>simp
 · have e1:(t.take (i+1)).take 1=t.take 1:=by rw [List.take_take,Nat.min_eq_left (by omega)]
   have e2:(t.take i).take 1=t.take 1:=by rw [List.take_take,Nat.min_eq_left (by omega)]
   rw [e1,e2]
   simp [hi,Bool.and_assoc]
theorem b03 (t:Tx) (i:Nat) (h:i < t.length) (hb:(if i=0 then P9 t[i] else X0 t[i])=false):a4w t=false:=by
 unfold a4w
 by_cases hi:i=0
 · subst hi
   rw [if_pos rfl] at hb
   cases t with
   | nil=>simp at h
   | cons c r=>simp at hb;simp [hb]
 · rw [if_neg hi] at hb
   have:t.all X0=false:=by rw [List.all_eq_false];exact ⟨t[i],List.getElem_mem h,by simp [hb]⟩
   simp [this]
structure LUrl where
 scheme:Tx
 user:Tx
 host:Tx
 port:Int
 path:Tx
 query:Tx
 frag:Tx
 hasQ:Bool
 hasF:Bool
def LUrl.Small (u:LUrl):Prop:=u.scheme.length < 1099511627776∧u.user.length < 1099511627776∧u.host.length < 1099511627776∧u.path.length < 1099511627776∧u.query.length < 1099511627776∧u.frag.length < 1099511627776∧u.port≤9223372036854775807
def a2k (p:Int):Tx:=if 0 < p then 58 :: a23 p.toNat else []
theorem c3q (p:Int) (h:p≤9223372036854775807):(a2k p).length≤20:=by
 unfold a2k
 split
 · have:=a5h 18 p.toNat (by omega)
   simp;omega
 · simp
def c6g (u:LUrl):Tx:=u.scheme++[58,47,47]++u.host++a2k u.port
def X6 (u:LUrl):Tx:=
 if a0x u.scheme then
  u.scheme++[58,47,47]++(if u.user=[] then [] else u.user++[64])++(u.host++a2k u.port++u.path)++(if u.hasQ then 63 :: u.query else [])++(if u.hasF then 35 :: u.frag else [])
 else u.scheme++[58]++u.path
def R6 (u:LUrl):Bool:=
 W3 u.scheme && (u.hasQ || decide (u.query=[])) && (u.hasF || decide (u.frag=[])) && Y3 u.path [63,35] && Y3 u.query [35] && Y3 u.frag [] && decide ((X6 u).length≤100) &&
 (if a0x u.scheme then Y3 u.user [47,63,35,64] && a2i u.host && decide (0≤u.port∧u.port≤65535) && decide (u.port≠a02 u.scheme) && decide (0 < u.path.length) && decide ((u.path.getD 0 0).toNat=47)
  else decide (u.user=[]) && decide (u.host=[]) && decide (u.port=0) && !u.hasQ && !u.hasF)
end Go.KP
end
section
namespace Go.KP
def k6 (t:Tx) (c:UInt8):Tx:=t.take (N3 t c)
def G9 (t:Tx) (c:UInt8):Tx:=t.drop (N3 t c+1)
theorem a1z {t:Tx} {c:UInt8} (h:c∉t):k6 t c=t:=by
 unfold k6
 have h1:=a1j t c
 have h2:¬ N3 t c < t.length:=fun h'=>h (W8.1 h')
 rw [show N3 t c=t.length by omega,List.take_length]
theorem b0f {t:Tx} {c:UInt8} (h:c∉t):G9 t c=[]:=by
 unfold G9
 have h2:¬ N3 t c < t.length:=fun h'=>h (W8.1 h')
 exact List.drop_eq_nil_of_le (by omega)
theorem S3 (t:Tx) (c:UInt8):(k6 t c).length≤t.length:=by unfold k6;simp;omega
theorem a0d (t:Tx) (c:UInt8):(G9 t c).length≤t.length:=by unfold G9;simp
def LUrl.zero:LUrl:=⟨[],[],[],0,[],[],[],false,false⟩
def a2q (sc r:Tx):Option Int:=
 if 58∈r then
  match X3 (G9 r 58) with
  | some n=>if 1≤n∧n≤65535 then some (if n=a02 sc then 0 else n) else none
  | none=>none
 else some 0
def a5x (sc r0:Tx):LUrl×Bool:=
 let r1:=k6 r0 35
 let r2:=k6 r1 63
 let r3:=k6 r2 47
 let r4:=if 64∈r3 then G9 r3 64 else r3
 match a2q sc r4 with
 | none=>(LUrl.zero,false)
 | some p=>
  let u:LUrl:=⟨sc,if 64∈r3 then k6 r3 64 else [],R8 (k6 r4 58),p,if 47∈r2 then r2.drop (N3 r2 47) else [47],G9 r1 63,G9 r0 35,decide (63∈r1),decide (35∈r0)⟩
  (u,R6 u)
def I3 (t:Tx):LUrl×Bool:=
 if 58∈t then
  let sc:=R8 (k6 t 58)
  let rest:=G9 t 58
  if a0x sc then
   if rest.take 2=[47,47] then a5x sc (rest.drop 2) else (LUrl.zero,false)
  else
   let u:LUrl:=⟨sc,[],[],0,k6 (k6 rest 35) 63,[],[],false,false⟩
   (u,R6 u)
 else (LUrl.zero,false)
structure LTarget where
 url:Tx
 prio:Int
 weight:Int
 deriving DecidableEq
structure LPeer where
 target:LTarget
 fails:Int
 retry:Int
 gone:Bool
 deriving DecidableEq
def P6 (x:LTarget):Bool:=
 (I3 x.url).2 && a0x (I3 x.url).1.scheme && !(I3 x.url).1.hasF && decide (X6 (I3 x.url).1=x.url) && decide (1≤x.prio∧x.prio≤9) && decide (1≤x.weight∧x.weight≤9)
def a4e (x:LPeer):Bool:=
 P6 x.target && decide (0≤x.fails∧x.fails≤1000000) && decide (0≤x.retry∧x.retry≤1000032) && !(decide (x.fails=0) && decide (x.retry≠0))
def T8:List Tx→List LPeer→Bool
 | _,[]=>true
 | seen,p :: r=>decide (p.target.url∉seen) && T8 (seen++[p.target.url]) r
def X7 (l:List LPeer):Bool:=decide (l.length≤4) && l.all a4e && T8 [] l
end Go.KP
end
section
namespace Go.KP
def U1 (t:Tx):Bool:=t.all fun c=>decide (33≤c.toNat∧c.toNat≤126)
def S1 (t wo:Tx):Bool:=t.any fun c=>decide (c∈wo)
theorem d0f (t wo:Tx):Y3 t wo=(U1 t && !S1 t wo):=by
 unfold Y3 U1 S1
 induction t with
 | nil=>rfl
 | cons c r ih=>
  simp only [List.all_cons,List.any_cons,ih]
  cases decide (33≤c.toNat∧c.toNat≤126)<;>cases decide (c∈wo)<;>simp
theorem c7p (t:Tx):Y3 t []=U1 t:=by simp [Y3,U1]
theorem a9w (a b:Tx):U1 (a++b)=(U1 a && U1 b):=by simp [U1]
theorem a7p:∀ (t:Tx) (last:Bool),U7 last t=true→U1 t=true
 | [],_,_=>rfl
 | c :: r,last,h=>by
  simp only [U7] at h
  split at h
  · cases h
  · rename_i hc
    have ih:=a7p r _ h
    have hh:U1 (c :: r)=(decide (33≤c.toNat∧c.toNat≤126) && U1 r):=rfl
    rw [hh,ih]
    simp [P9,P7] at hc ⊢
    omega
theorem c1k {t:Tx} (h:a2i t=true):U1 t=true:=a7p t _ h
def a3n (p:Int):Tx:=if p=0 then [] else 58 :: a0y p
def a3m (u:LUrl):Tx:=
 if a0x u.scheme then
  u.scheme++[58,47,47]++(if u.user=[] then [] else u.user++[64])++u.host++a3n u.port++u.path++(if u.hasQ then 63 :: u.query else [])++(if u.hasF then 35 :: u.frag else [])
 else u.scheme++[58]++u.path
theorem a8d {u:LUrl} (h:0≤u.port):a3m u=X6 u:=by
 unfold a3m X6
 split
 · have:a3n u.port=a2k u.port:=by
    unfold a3n a2k a0y
    by_cases h0:u.port=0
    · simp [h0]
    · have g1:0 < u.port:=by omega
      have g2:¬ u.port < 0:=by omega
      simp only [h0,g1,g2,if_true,if_false]
   rw [this];simp
 · rfl
def b2l (u:LUrl):Bool:=
 W3 u.scheme && decide (u.user.length+u.host.length+u.path.length+u.query.length+u.frag.length≤100) && decide ((a3m u).length≤100) && U1 (u.user++u.host++u.path++u.query++u.frag) && !S1 u.path [63,35] &&
 (if a0x u.scheme then !S1 u.user [47,63,35,64] && a2i u.host && decide (0≤u.port∧u.port≤65535) && decide (u.port≠a02 u.scheme) && decide (0 < u.path.length) && decide ((u.path.getD 0 0).toNat=47) && !S1 u.query [35] && (u.hasQ || decide (u.query=[])) && (u.hasF || decide (u.frag=[]))
  else decide (u.user=[]) && decide (u.host=[]) && decide (u.port=0) && decide (u.query=[]) && decide (u.frag=[]) && !u.hasQ && !u.hasF)
theorem c7u (u:LUrl):b2l u=R6 u:=by
 by_cases hp:0≤u.port
 · unfold b2l R6
   rw [a8d hp]
   simp only [d0f,c7p,a9w]
   by_cases hw:a0x u.scheme=true
   · rw [if_pos hw,if_pos hw]
     rw [Bool.eq_iff_iff]
     have hl:(X6 u).length=u.scheme.length+3+(if u.user=[] then 0 else u.user.length+1)+(u.host.length+(a2k u.port).length+u.path.length)+(if u.hasQ then u.query.length+1 else 0)+(if u.hasF then u.frag.length+1 else 0):=by
      unfold X6
      rw [if_pos hw]
      simp only [List.length_append]
      congr 1
      · congr 1
        · congr 1
          congr 1
          split<;>simp
        · split<;>simp
      · split<;>simp
     constructor
     · intro h
       simp only [Bool.and_eq_true,Bool.or_eq_true,decide_eq_true_eq,Bool.not_eq_true'] at h ⊢
       obtain ⟨⟨⟨⟨⟨h1,h2⟩,h3⟩,h4⟩,h5⟩,h6⟩:=h
       obtain ⟨⟨⟨⟨⟨⟨⟨⟨a1,a2⟩,a3⟩,a4⟩,a5⟩,a6⟩,a7⟩,a8⟩,a9⟩:=h6
       obtain ⟨⟨⟨⟨b1,b2⟩,b3⟩,b4⟩,b5⟩:=h4
       exact ⟨⟨⟨⟨⟨⟨⟨h1,a8⟩,a9⟩,b3,h5⟩,b4,a7⟩,b5,by simp [S1]⟩,h3⟩,⟨⟨⟨⟨⟨b1,a1⟩,a2⟩,a3⟩,a4⟩,a5⟩,a6⟩
     · intro h
       simp only [Bool.and_eq_true,Bool.or_eq_true,decide_eq_true_eq,Bool.not_eq_true'] at h ⊢
       obtain ⟨⟨⟨⟨⟨⟨⟨c1,c2⟩,c3⟩,c4⟩,c5⟩,c6⟩,c7⟩,c8⟩:=h
       obtain ⟨⟨⟨⟨⟨d1,d2⟩,d3⟩,d4⟩,d5⟩,d6⟩:=c8
       have e:=c1k d2
       refine ⟨⟨⟨⟨⟨c1,?_⟩,c7⟩,?_⟩,c4.2⟩,⟨⟨⟨⟨⟨⟨⟨⟨d1.2,d2⟩,d3⟩,d4⟩,d5⟩,d6⟩,c5.2⟩,c2⟩,c3⟩⟩
       · have q1:u.query.length≤(if u.hasQ then u.query.length+1 else 0):=by
          rcases c2 with h | h
          · rw [h];simp
          · rw [h];simp
         have q2:u.frag.length≤(if u.hasF then u.frag.length+1 else 0):=by
          rcases c3 with h | h
          · rw [h];simp
          · rw [h];simp
         have q3:u.user.length≤(if u.user=[] then 0 else u.user.length+1):=by
          split
          · rename_i h;rw [h];simp
          · omega
         omega
       · exact ⟨⟨⟨⟨d1.1,e⟩,c4.1⟩,c5.1⟩,c6.1⟩
   · rw [if_neg hw,if_neg hw]
     rw [Bool.eq_iff_iff]
     have hl:(X6 u).length=u.scheme.length+1+u.path.length:=by
      unfold X6
      rw [if_neg hw]
      simp;omega
     constructor
     · intro h
       simp only [Bool.and_eq_true,Bool.or_eq_true,decide_eq_true_eq,Bool.not_eq_true'] at h ⊢
       obtain ⟨⟨⟨⟨⟨h1,h2⟩,h3⟩,h4⟩,h5⟩,⟨⟨⟨⟨⟨⟨a1,a2⟩,a3⟩,a4⟩,a5⟩,a6⟩,a7⟩⟩:=h
       obtain ⟨⟨⟨⟨b1,b2⟩,b3⟩,b4⟩,b5⟩:=h4
       have e:S1 u.frag []=false:=by simp [S1]
       have e2:S1 u.query [35]=false:=by rw [a4];rfl
       refine ⟨⟨⟨⟨⟨⟨⟨h1,.inr a4⟩,.inr a5⟩,b3,h5⟩,b4,e2⟩,b5,by simp [S1]⟩,h3⟩,⟨⟨⟨⟨a1,a2⟩,a3⟩,a6⟩,a7⟩⟩
     · intro h
       simp only [Bool.and_eq_true,Bool.or_eq_true,decide_eq_true_eq,Bool.not_eq_true'] at h ⊢
       obtain ⟨⟨⟨⟨⟨⟨⟨c1,c2⟩,c3⟩,c4⟩,c5⟩,c6⟩,c7⟩,⟨⟨⟨⟨d1,d2⟩,d3⟩,d4⟩,d5⟩⟩:=h
       have q:u.query=[]:=by rcases c2 with h | h;(rw [d4] at h;cases h);exact h
       have f:u.frag=[]:=by rcases c3 with h | h;(rw [d5] at h;cases h);exact h
       refine ⟨⟨⟨⟨⟨c1,?_⟩,c7⟩,?_⟩,c4.2⟩,⟨⟨⟨⟨⟨⟨d1,d2⟩,d3⟩,q⟩,f⟩,d4⟩,d5⟩⟩
       · simp [d1,d2,q,f];omega
       · refine ⟨⟨⟨⟨?_,?_⟩,c4.1⟩,c5.1⟩,c6.1⟩<;>simp [d1,d2,U1]
 · have e1:b2l u=false:=by
    unfold b2l
    have h1:decide (0≤u.port∧u.port≤65535)=false:=by simp;omega
    have h2:decide (u.port=0)=false:=by simp;omega
    simp [h1,h2]
   have e2:R6 u=false:=by
    unfold R6
    have h1:decide (0≤u.port∧u.port≤65535)=false:=by simp;omega
    have h2:decide (u.port=0)=false:=by simp;omega
    simp [h1,h2]
   rw [e1,e2]
end Go.KP
end
section
namespace Go.KP
theorem a6p {t:Tx} (h:(I3 t).2=true):R6 (I3 t).1=true:=by
 unfold I3 a5x at h ⊢
 split at h
 · rename_i h1
   rw [if_pos h1]
   dsimp only at h ⊢
   split at h
   · rename_i h2
     rw [if_pos h2]
     split at h
     · rename_i h3
       rw [if_pos h3]
       split at h
       · cases h
       · exact h
     · cases h
   · rename_i h2
     rw [if_neg h2]
     exact h
 · cases h
theorem a8b {u:LUrl} (h:R6 u=true):0≤u.port:=by
 unfold R6 at h
 simp only [Bool.and_eq_true] at h
 obtain ⟨_,h⟩:=h
 split at h
 · simp only [Bool.and_eq_true,decide_eq_true_eq] at h
   exact h.1.1.1.2.1
 · simp only [Bool.and_eq_true,decide_eq_true_eq] at h
   omega
theorem b3d {u:LUrl} (h:R6 u=true) (hf:u.hasF=false):u.frag=[]:=by
 unfold R6 at h
 simp only [Bool.and_eq_true,Bool.or_eq_true,decide_eq_true_eq,hf] at h
 rcases h.1.1.1.1.1.2 with h | h
 · cases h
 · exact h
theorem b5p {u:LUrl} (h:R6 u=true):(X6 u).length≤100:=by
 unfold R6 at h
 simp only [Bool.and_eq_true,decide_eq_true_eq] at h
 exact h.1.2
theorem c7t {t:Tx} {c x:UInt8} (h:x∈G9 t c):x∈t:=List.mem_of_mem_drop h
theorem c1f {t:Tx} (h:(I3 t).1.hasF=true):35∈t:=by
 unfold I3 a5x at h
 split at h
 · dsimp only at h
   split at h
   · split at h
     · split at h
       · cases h
       · simp only [decide_eq_true_eq] at h
         exact c7t (List.mem_of_mem_drop h)
     · cases h
   · cases h
 · cases h
theorem b1m:∀ (n:Nat),(a23 n).all P7=true:=by
 intro n
 induction n using Nat.strongRecOn with
 | ind n ih=>
  by_cases h:n < 10
  · rw [a2b h]
    simp [P7]
    omega
  · rw [a41 h,List.all_append,ih (n / 10) (by omega)]
    simp [P7]
    omega
theorem b2g {t wo:Tx} {c:UInt8} (h:Y3 t wo=true) (hc:c∈wo):c∉t:=by
 intro hm
 unfold Y3 at h
 rw [List.all_eq_true] at h
 have:=h c hm
 simp [hc] at this
theorem b3h:∀ (t:Tx) (last:Bool),U7 last t=true→35∉t
 | [],_,_=>by simp
 | c :: r,last,h=>by
  simp only [U7] at h
  split at h
  · cases h
  · rename_i hc
    have ih:=b3h r _ h
    intro hm
    rcases List.mem_cons.1 hm with e | e
    · subst e;apply hc;simp [P9,P7]
    · exact ih e
theorem c35 {s:Tx} (h:a0x s=true):35∉s:=by
 simp [a0x] at h
 rcases h with h | h<;>subst h<;>decide
def a26 (t:Tx):Option Tx:=
 if t.length≤65536 then
  if (I3 t).2 && a0x (I3 t).1.scheme then some (a3m { (I3 t).1 with frag:=[],hasF:=false }) else none
 else none
theorem c7x (t:Tx):decide (a26 t=some t)=((I3 t).2 && a0x (I3 t).1.scheme && !(I3 t).1.hasF && decide (X6 (I3 t).1=t)):=by
 rw [Bool.eq_iff_iff]
 simp only [decide_eq_true_eq,Bool.and_eq_true,Bool.not_eq_true']
 unfold a26
 constructor
 · intro h
   split at h
   · split at h
     · rename_i h1 h2
       simp only [Bool.and_eq_true] at h2
       simp only [Option.some.injEq] at h
       have hok:=a6p h2.1
       have hp:=a8b hok
       cases hf:(I3 t).1.hasF with
       | true=>
        exfalso
        have h35:=c1f hf
        rw [a8d (by exact hp)] at h
        have hn:35∉X6 { (I3 t).1 with frag:=[],hasF:=false }:=by
         have hok2:=hok
         unfold R6 at hok2
         simp only [Bool.and_eq_true,Bool.or_eq_true,decide_eq_true_eq,h2.2,if_true] at hok2
         obtain ⟨⟨⟨⟨⟨⟨⟨c1,c2⟩,c3⟩,c4⟩,c5⟩,c6⟩,c7⟩,⟨⟨⟨⟨⟨d1,d2⟩,d3⟩,d4⟩,d5⟩,d6⟩⟩:=hok2
         have e1:=b2g (c:=35) c4 (by simp)
         have e2:=b2g (c:=35) c5 (by simp)
         have e3:=b2g (c:=35) d1 (by simp)
         have e4:=b3h _ _ d2
         have e5:=c35 h2.2
         have e6:35∉a23 (I3 t).1.port.toNat:=fun hm=>by
          have:=b1m (I3 t).1.port.toNat
          rw [List.all_eq_true] at this
          have:=this 35 hm
          simp [P7] at this
         unfold X6 a2k
         rw [if_pos h2.2]
         dsimp only
         intro hm
         simp only [List.mem_append] at hm
         rcases hm with (((hm | hm) | hm) | hm) | hm
         · rcases hm with hm | hm
           · exact e5 hm
           · simp at hm
         · split at hm
           · simp at hm
           · simp at hm;exact e3 hm
         · rcases hm with (hm | hm) | hm
           · exact e4 hm
           · split at hm
             · simp at hm;exact e6 hm
             · simp at hm
           · exact e1 hm
         · split at hm
           · simp at hm;exact e2 hm
           · simp at hm
         · simp at hm
        rw [h] at hn
        exact hn h35
       | false=>
        have hfr:=b3d hok hf
        have e:{ (I3 t).1 with frag:=[],hasF:=false }=(I3 t).1:=by
         rw [← hfr,← hf]
        rw [e,a8d hp] at h
        exact ⟨⟨h2,rfl⟩,h⟩
     · cases h
   · cases h
 · rintro ⟨⟨⟨h1,h2⟩,hf⟩,h⟩
   have hok:=a6p h1
   have hfr:=b3d hok hf
   have hl:=b5p hok
   rw [h] at hl
   rw [if_pos (by omega),h1,h2]
   have e:{ (I3 t).1 with frag:=[],hasF:=false }=(I3 t).1:=by
    rw [← hfr,← hf]
   rw [e,a8d (a8b hok),h]
   rfl
theorem b9p (x:LTarget):(decide (a26 x.url=some x.url) && decide (1≤x.prio∧x.prio≤9) && decide (1≤x.weight∧x.weight≤9))=P6 x:=by
 rw [c7x];rfl
end Go.KP
end
section
namespace Go.KP
theorem b8q (k:Nat) (h:k < 10):(UInt8.ofNat (48+k)).toNat=48+k:=by
 rw [UInt8.toNat_ofNat'];omega
theorem b8b (n:Nat):V9 (a23 n)=n:=by
 induction n using Nat.strongRecOn with
 | ind n ih=>
  by_cases h:n < 10
  · rw [a2b h]
    have:=b8q n h
    simp only [V9,List.foldl_cons,List.foldl_nil,this];omega
  · rw [a41 h,a9i,ih (n / 10) (by omega),b8q _ (by omega)]
    omega
theorem b9k (n:Nat):a23 n≠[]:=by
 by_cases h:n < 10
 · rw [a2b h];simp
 · rw [a41 h];simp
theorem c7s (n:Nat) (h0:n≠0):((a23 n).getD 0 0).toNat≠48:=by
 induction n using Nat.strongRecOn with
 | ind n ih=>
  by_cases h:n < 10
  · rw [a2b h]
    have:=b8q n h
    simp only [List.getD_cons_zero,this];omega
  · rw [a41 h]
    have h1:=ih (n / 10) (by omega) (by omega)
    cases hl:a23 (n / 10) with
    | nil=>exact absurd hl (b9k _)
    | cons c r=>rw [hl] at h1;simpa using h1
theorem b3k {c:UInt8} (h:P7 c=true):UInt8.ofNat (48+(c.toNat - 48))=c:=by
 simp only [P7,decide_eq_true_eq] at h
 apply UInt8.toNat_inj.1
 rw [b8q _ (by omega)];omega
theorem c7r:∀ (k:Nat) (t:Tx),t.length=k→t≠[]→t.all P7=true→((t.getD 0 0).toNat=48→t.length=1)→a23 (V9 t)=t:=by
 intro k
 induction k with
 | zero=>intro t ht h;exact absurd (List.eq_nil_of_length_eq_zero ht) h
 | succ k ih=>
  intro t ht hne ha hz
  obtain ⟨r,c,rfl⟩:∃ r c,t=r++[c]:=⟨t.dropLast,t.getLast hne,(List.dropLast_concat_getLast _).symm⟩
  simp only [List.all_append,Bool.and_eq_true] at ha
  have hc:P7 c=true:=by simpa using ha.2
  have hc':=hc
  simp only [P7,decide_eq_true_eq] at hc'
  rw [a9i]
  cases r with
  | nil=>
   rw [show V9 []*10+(c.toNat - 48)=c.toNat - 48 by simp [V9]]
   rw [a2b (by omega),b3k hc];rfl
  | cons d r=>
   have hd:d.toNat≠48:=fun e=>by
    have:=hz (by simpa using e)
    simp at this
   have hi:=ih (d :: r) (by simpa using ht) (by simp) ha.1 (fun e=>absurd (by simpa using e) hd)
   have hpos:V9 (d :: r)≠0:=fun e=>by
    rw [e,a2b (by omega)] at hi
    have h2:UInt8.ofNat 48=d:=by simpa using (List.cons.inj hi).1
    exact hd (by rw [← h2];rfl)
   rw [a41 (by omega)]
   have e1:(V9 (d :: r)*10+(c.toNat - 48)) / 10=V9 (d :: r):=by omega
   have e2:(V9 (d :: r)*10+(c.toNat - 48)) % 10=c.toNat - 48:=by omega
   rw [e1,e2,hi,b3k hc]
def a0j (t:Tx):Nat:=match t with
 | []=>0
 | c :: r=>if c=45 then r.length else (c :: r).length
theorem b3b (neg:Bool) (n:Nat) (h18:(a23 n).length≤18) (hn:neg=true→n≠0):a32 neg (a23 n)=false:=by
 unfold a32
 have h1:(a23 n).length≠0:=fun e=>b9k n (List.eq_nil_of_length_eq_zero e)
 by_cases h0:n=0
 · subst h0
   cases neg with
   | true=>exact absurd rfl (hn rfl)
   | false=>rw [a2b (by omega)];simp
 · have h2:=c7s n h0
   have e1:decide ((a23 n).length=0∨18 < (a23 n).length)=false:=by simp only [decide_eq_false_iff_not];omega
   have e2:decide (((a23 n).getD 0 0).toNat=48)=false:=by simp only [decide_eq_false_iff_not];exact h2
   rw [e1,e2];rfl
theorem b9i (n:Int) (h:a0j (a0y n)≤18):X3 (a0y n)=some n:=by
 unfold a0y at h ⊢
 by_cases h0:n < 0
 · rw [if_pos h0] at h ⊢
   have h':(a23 (-n).toNat).length≤18:=by simpa [a0j] using h
   simp only [X3,if_true,a2h]
   rw [b3b true _ h' (fun _=>by omega),if_neg (by simp),if_pos (b1m _),b8b]
   simp;omega
 · rw [if_neg h0] at h ⊢
   cases hl:a23 n.toNat with
   | nil=>exact absurd hl (b9k _)
   | cons c r=>
    have hd:=b1m n.toNat
    rw [hl] at hd h
    have hc:c≠45:=fun e=>by subst e;simp [P7] at hd
    have h':(a23 n.toNat).length≤18:=by rw [hl];simpa [a0j,hc] using h
    simp only [X3,hc,if_false]
    rw [← hl]
    simp only [a2h]
    rw [b3b false _ h' (fun e=>by cases e),if_neg (by simp),if_pos (b1m _),b8b]
    simp;omega
theorem a69 {t:Tx} {n:Int} (h:X3 t=some n):a0y n=t∧a0j t≤18 ∧
 ∃ u:Tx,u≠[]∧u.all P7=true∧u.length≤18∧((t=45 :: u∧n=-(V9 u:Int))∨(t=u∧n=V9 u)):=by
 have key:∀ (neg:Bool) (u:Tx),a2h neg u=some n→u≠[]∧u.length≤18∧u.all P7=true∧a23 (V9 u)=u∧(neg=true→V9 u≠0)∧n=(if neg then - (V9 u:Int) else (V9 u:Int)):=by
  intro neg u hu
  unfold a2h at hu
  split at hu
  · cases hu
  · rename_i hb
    split at hu
    · rename_i ha
      have hn:=(Option.some.inj hu).symm
      have hb':a32 neg u=false:=by simpa using hb
      unfold a32 at hb'
      rw [Bool.or_eq_false_iff] at hb'
      obtain ⟨q1,q2⟩:=hb'
      rw [decide_eq_false_iff_not] at q1
      have hne:u≠[]:=fun e=>q1 (by rw [e];simp)
      have hz:(u.getD 0 0).toNat=48→u.length=1∧neg=false:=fun e=>by
       rw [Bool.and_eq_false_iff] at q2
       rcases q2 with q2 | q2
       · simp only [decide_eq_false_iff_not] at q2;exact absurd e q2
       · rw [Bool.or_eq_false_iff,decide_eq_false_iff_not] at q2
         have:u.length≠0:=fun e=>hne (List.eq_nil_of_length_eq_zero e)
         exact ⟨by omega,q2.2⟩
      have hl:=c7r u.length u rfl hne ha (fun e=>(hz e).1)
      refine ⟨hne,by omega,ha,hl,fun hneg h0=>?_,hn⟩
      rw [h0,a2b (by omega)] at hl
      have:=(hz (by rw [← hl];rfl)).2
      rw [hneg] at this;cases this
    · cases hu
 unfold X3 at h
 split at h
 · cases h
 · rename_i c r
   split at h
   · rename_i hc
     subst hc
     obtain ⟨h1,h2,h3,h4,h5,h6⟩:=key true r h
     simp only [if_true] at h6
     have h5':=h5 rfl
     refine ⟨?_,by simpa [a0j] using h2,r,h1,h3,h2,.inl ⟨rfl,h6⟩⟩
     unfold a0y
     rw [if_pos (by omega),h6]
     rw [show (- -(V9 r:Int)).toNat=V9 r by omega,h4]
   · rename_i hc
     obtain ⟨h1,h2,h3,h4,h5,h6⟩:=key false (c :: r) h
     have h6:n=(V9 (c :: r):Int):=h6
     refine ⟨?_,by simpa [a0j,hc] using h2,c :: r,h1,h3,h2,.inr ⟨rfl,h6⟩⟩
     unfold a0y
     rw [if_neg (by omega),h6]
     rw [show ((V9 (c :: r):Int)).toNat=V9 (c :: r) by omega,h4]
end Go.KP
end
section
namespace Go.KP
theorem b1l {t:Tx} (ht:t.length < 1099511627776):(I3 t).1.Small:=by
 have hz:LUrl.zero.Small:=by simp [LUrl.Small,LUrl.zero]
 have hA:∀ (t:Tx) c,(k6 t c).length≤t.length:=S3
 have hB:∀ (t:Tx) c,(G9 t c).length≤t.length:=a0d
 unfold I3
 split
 · have h1:(R8 (k6 t 58)).length≤t.length:=by have:=hA t 58;simpa [R8] using this
   have h2:=hB t 58
   dsimp only
   split
   · split
     · unfold a5x
       dsimp only
       have h3:((G9 t 58).drop 2).length≤t.length:=by simp;omega
       generalize (G9 t 58).drop 2=r0 at h3
       have h4:=hA r0 35
       have h4':=hB r0 35
       generalize k6 r0 35=r1 at h4
       have h5:=hA r1 63
       have h5':=hB r1 63
       generalize k6 r1 63=r2 at h5
       have h6:=hA r2 47
       generalize k6 r2 47=r3 at h6
       have h7:=hA r3 64
       have h7':(if 64∈r3 then G9 r3 64 else r3).length≤r3.length:=by
        split
        · exact hB r3 64
        · omega
       generalize (if 64∈r3 then G9 r3 64 else r3)=r4 at h7'
       have h8:(R8 (k6 r4 58)).length≤r4.length:=by have:=hA r4 58;simpa [R8] using this
       split
       · exact hz
       · rename_i p hp
         refine ⟨by show (R8 _).length < _;omega,?_,by show (R8 _).length < _;omega,?_,by show (G9 r1 63).length < _;omega,by show (G9 r0 35).length < _;omega,?_⟩
         · show (if 64∈r3 then k6 r3 64 else []).length < _
           split
           · omega
           · simp
         · show (if 47∈r2 then r2.drop (N3 r2 47) else [47]).length < _
           split
           · simp;omega
           · simp
         · show p≤_
           unfold a2q at hp
           split at hp
           · split at hp
             · split at hp
               · have:=Option.some.inj hp
                 split at this<;>omega
               · cases hp
             · cases hp
           · have:=Option.some.inj hp;omega
     · exact hz
   · have h3:=hA (G9 t 58) 35
     have h4:=hA (k6 (G9 t 58) 35) 63
     refine ⟨by show (R8 _).length < _;omega,by simp,by simp,by show (k6 _ _).length < _;omega,by simp,by simp,by show (0:Int)≤_;omega⟩
 · exact hz
def LTarget.Small (x:LTarget):Prop:=x.url.length < 1099511627776
theorem a68 (l:List LPeer) (i:Nat) (h:i < l.length):T8 [] (l.take (i+1))=(T8 [] (l.take i) && decide (l[i].target.url∉(l.take i).map fun p=>p.target.url)):=by
 have key:∀ (l:List LPeer) (i:Nat) (seen:List Tx) (h:i < l.length),T8 seen (l.take (i+1))=(T8 seen (l.take i) && decide (l[i].target.url∉seen++(l.take i).map fun p=>p.target.url)):=by
  intro l
  induction l with
  | nil=>intro i seen h;simp at h
  | cons p l ih=>
   intro i seen h
   cases i with
   | zero=>simp [T8]
   | succ i=>
    simp only [List.take_succ_cons,T8,List.getElem_cons_succ,List.map_cons]
    rw [ih i (seen++[p.target.url]) (by simpa using h),Bool.and_assoc]
    congr 2
    simp
 simpa using key l i [] h
theorem a3v (l:List LPeer) (i:Nat) (h:T8 [] (l.take i)=false):T8 [] l=false:=by
 have key:∀ (l:List LPeer) (i:Nat) (seen:List Tx),T8 seen (l.take i)=false→T8 seen l=false:=by
  intro l
  induction l with
  | nil=>intro i seen h;simp [T8] at h
  | cons p l ih=>
   intro i seen h
   cases i with
   | zero=>simp [T8] at h
   | succ i=>
    simp only [List.take_succ_cons,T8] at h ⊢
    cases hd:decide (p.target.url∉seen) with
    | false=>rfl
    | true=>
     rw [hd] at h
     simp only [Bool.true_and] at h ⊢
     exact ih i _ h
 exact key l i [] h
end Go.KP
end
section
namespace Go.KP
def LUrl.Tiny (u:LUrl):Prop:=u.scheme.length < 1048577∧u.user.length < 1048577∧u.host.length < 1048577∧u.path.length < 1048577∧u.query.length < 1048577∧u.frag.length < 1048577∧(0≤u.port∧u.port≤65535)
theorem c1e {t:Tx} (ht:t.length < 1048577):(I3 t).1.Tiny:=by
 have hz:LUrl.zero.Tiny:=by simp [LUrl.Tiny,LUrl.zero]
 have hA:∀ (t:Tx) c,(k6 t c).length≤t.length:=S3
 have hB:∀ (t:Tx) c,(G9 t c).length≤t.length:=a0d
 unfold I3
 split
 · have h1:(R8 (k6 t 58)).length≤t.length:=by have:=hA t 58;simpa [R8] using this
   have h2:=hB t 58
   dsimp only
   split
   · split
     · unfold a5x
       dsimp only
       have h3:((G9 t 58).drop 2).length≤t.length:=by simp;omega
       generalize (G9 t 58).drop 2=r0 at h3
       have h4:=hA r0 35
       have h4':=hB r0 35
       generalize k6 r0 35=r1 at h4
       have h5:=hA r1 63
       have h5':=hB r1 63
       generalize k6 r1 63=r2 at h5
       have h6:=hA r2 47
       generalize k6 r2 47=r3 at h6
       have h7:=hA r3 64
       have h7':(if 64∈r3 then G9 r3 64 else r3).length≤r3.length:=by
        split
        · exact hB r3 64
        · omega
       generalize (if 64∈r3 then G9 r3 64 else r3)=r4 at h7'
       have h8:(R8 (k6 r4 58)).length≤r4.length:=by have:=hA r4 58;simpa [R8] using this
       split
       · exact hz
       · rename_i p hp
         refine ⟨by show (R8 _).length < _;omega,?_,by show (R8 _).length < _;omega,?_,by show (G9 r1 63).length < _;omega,by show (G9 r0 35).length < _;omega,?_⟩
         · show (if 64∈r3 then k6 r3 64 else []).length < _
           split
           · omega
           · simp
         · show (if 47∈r2 then r2.drop (N3 r2 47) else [47]).length < _
           split
           · simp;omega
           · simp
         · show 0≤p∧p≤65535
           unfold a2q at hp
           split at hp
           · split at hp
             · split at hp
               · have:=Option.some.inj hp
                 split at this<;>omega
               · cases hp
             · cases hp
           · have:=Option.some.inj hp;omega
     · exact hz
   · have h3:=hA (G9 t 58) 35
     have h4:=hA (k6 (G9 t 58) 35) 63
     refine ⟨by show (R8 _).length < _;omega,by simp,by simp,by show (k6 _ _).length < _;omega,by simp,by simp,by show (0:Int)≤0∧(0:Int)≤65535;omega⟩
 · exact hz
def Z4 (l:List LTarget):Bool:=T8 [] (l.map fun t=>⟨t,0,0,false⟩)
theorem b01 (l:List LTarget) (i:Nat) (h:i < l.length):Z4 (l.take (i+1))=(Z4 (l.take i) && decide (l[i].url∉(l.take i).map fun t=>t.url)):=by
 have:=a68 (l.map fun t=>(⟨t,0,0,false⟩:LPeer)) i (by simpa using h)
 unfold Z4
 rw [← List.map_take,← List.map_take] at this
 rw [this]
 congr 2
 simp [List.map_map,Function.comp_def]
theorem b67 (l:List LTarget) (i:Nat) (h:Z4 (l.take i)=false):Z4 l=false:=by
 unfold Z4 at h ⊢
 rw [List.map_take] at h
 exact a3v _ i h
theorem b1h:∀ (l l':List LPeer) (seen:List Tx),l.map (fun p=>p.target.url)=l'.map (fun p=>p.target.url)→T8 seen l=T8 seen l'
 | [],[],_,_=>rfl
 | p :: l,p' :: l',seen,h=>by
  simp only [List.map_cons,List.cons.injEq] at h
  simp only [T8,h.1]
  rw [b1h l l' _ h.2]
 | [],_ :: _,_,h=>by simp at h
 | _ :: _,[],_,h=>by simp at h
theorem b66 (l:List LPeer):Z4 (l.map fun p=>p.target)=T8 [] l:=by
 unfold Z4
 exact b1h _ _ _ (by simp [List.map_map,Function.comp_def])
end Go.KP
end
section
namespace Go.KP
def d0d (now:Int) (x:LPeer):Bool:=!x.gone && decide (x.retry≤now)
def chMatch (now b:Int) (x:LPeer):Bool:=d0d now x && decide (x.target.prio=b)
def chSum (now b:Int):List LPeer→Int
 | []=>0
 | x :: l=>(if chMatch now b x then x.target.weight else 0)+chSum now b l
structure ChInv (now:Int) (l:List LPeer) (a:Int×Int):Prop where
 lo:0≤a.2
 hi:a.2≤9*l.length
 sum:a.2=if a.2=0 then 0 else chSum now a.1 l
 low:∀ x∈l,d0d now x=true→a.1≤x.target.prio∧0 < a.2
 nine:a.2≠0→1≤a.1∧a.1≤9
end Go.KP
end
section
namespace Go.KP
def b7f (k:Nat) (out:Tx):Tx:=if h:k=0 then out else b7f (k / 10) (UInt8.ofNat (48+k % 10) :: out)
termination_by k
decreasing_by omega
theorem c7q (out:Tx):b7f 0 out=out:=by rw [b7f];simp
theorem d0g {k:Nat} (h:k≠0) (out:Tx):b7f k out=b7f (k / 10) (UInt8.ofNat (48+k % 10) :: out):=by
 conv=>lhs;rw [b7f]
 simp [h]
def lmk (k:Nat):Tx:=if k=0 then [109,48] else 109 :: b7f k []
def a3h (k:Nat):LPeer:=⟨⟨lmk k,(k+1:Nat),(k+2:Nat)⟩,(k+3:Nat),(k+4:Nat),decide ((k+5) % 3=0)⟩
end Go.KP
end
section
namespace Go.KP
end Go.KP
end
section
namespace Go.KP
def G8 {α:Type} (f:α→Nat) (l:List α):Nat:=(l.map f).sum
def zS {α:Type} (f:α→Nat) (l:List α):Nat:=l.length+G8 f l
def bdS {α:Type} (B:Nat) (p:α→Prop) (l:List α):Prop:=l.length≤B∧∀ x∈l,p x
def cut (left:Int) (n:Nat):Int:=if left - n < 0 then -1 else left - n
theorem l8 {left:Int} {n:Nat} (h:left - n < 0):cut left n=-1:=if_pos h
theorem L6 {left:Int} {n:Nat} (h:¬ left - n < 0):cut left n=left - n:=if_neg h
theorem c8w {left:Int} {n:Nat} (h:¬ cut left n < 0) (h0:0≤left):(n:Int)≤left∧cut left n=left - n:=by
 unfold cut at *
 split at h<;>rename_i h1
 · omega
 · rw [if_neg h1];omega
theorem a1k {α:Type} {f:α→Nat} (l:List α) {i:Nat} (h:i < l.length):G8 f (l.take (i+1))=G8 f (l.take i)+f l[i]:=by
 unfold G8
 rw [List.take_add_one,List.getElem?_eq_getElem h,List.map_append,List.sum_append]
 simp
theorem a4d {α:Type} {f:α→Nat} (l:List α) (i:Nat):G8 f (l.take i)≤G8 f l:=by
 unfold G8
 conv=>rhs;rw [← List.take_append_drop i l]
 rw [List.map_append,List.sum_append]
 omega
theorem d0c {α:Type} {f:α→Nat} {l:List α} {x:α} (h:x∈l):f x≤G8 f l:=by
 unfold G8
 induction l with
 | nil=>cases h
 | cons y l ih=>
  rcases List.mem_cons.1 h with rfl | h
  · simp
  · have:=ih h;simp;omega
theorem a7l {α:Type} {B:Nat} {f:α→Nat} {p:α→Prop} {l:List α} (hp:∀ x,f x≤B→p x) (h:zS f l≤B):bdS B p l:=by
 unfold zS at h
 exact ⟨by omega,fun x hx=>hp x (by have:=d0c (f:=f) hx;omega)⟩
def S6 (x:LTarget):Nat:=x.url.length
def U9 (B:Nat) (x:LTarget):Prop:=x.url.length≤B
theorem b4j {B:Nat} {x:LTarget} (h:S6 x≤B):U9 B x:=by
 unfold S6 at h
 unfold U9
 exact by omega
def Z9 (x:LPeer):Nat:=S6 x.target
def a1n (B:Nat) (x:LPeer):Prop:=U9 B x.target
theorem c9h {B:Nat} {x:LPeer} (h:Z9 x≤B):a1n B x:=by
 unfold Z9 at h
 unfold a1n
 exact b4j (by omega)
structure LGroup where
 name:Tx
 age:Int
 targets:List LTarget
 deriving DecidableEq
def a3y (x:LGroup):Nat:=x.name.length+zS S6 x.targets
def a2d (B:Nat) (x:LGroup):Prop:=x.name.length≤B∧bdS B (U9 B) x.targets
theorem c62 {B:Nat} {x:LGroup} (h:a3y x≤B):a2d B x:=by
 unfold a3y at h
 unfold a2d
 exact ⟨by omega,a7l (fun _ h=>b4j h) (show zS S6 x.targets≤B by omega)⟩
structure LRule where
 name:Tx
 words:List Tx
 deriving DecidableEq
def a0g (x:LRule):Nat:=x.name.length+zS List.length x.words
def Y2 (B:Nat) (x:LRule):Prop:=x.name.length≤B∧bdS B (fun t=>t.length≤B) x.words
theorem c9f {B:Nat} {x:LRule} (h:a0g x≤B):Y2 B x:=by
 unfold a0g at h
 unfold Y2
 exact ⟨by omega,a7l (fun _ h=>h) (show zS List.length x.words≤B by omega)⟩
structure LPolicy where
 reportTo:Tx
 uris:List Tx
 rules:List LRule
 deriving DecidableEq
def a17 (x:LPolicy):Nat:=x.reportTo.length+zS List.length x.uris+zS a0g x.rules
def a0p (B:Nat) (x:LPolicy):Prop:=x.reportTo.length≤B∧bdS B (fun t=>t.length≤B) x.uris∧bdS B (Y2 B) x.rules
theorem c3c {B:Nat} {x:LPolicy} (h:a17 x≤B):a0p B x:=by
 unfold a17 at h
 unfold a0p
 exact ⟨by omega,a7l (fun _ h=>h) (show zS List.length x.uris≤B by omega),a7l (fun _ h=>c9f h) (show zS a0g x.rules≤B by omega)⟩
structure LViolation where
 document:Tx
 referrer:Tx
 blocked:Tx
 source:Tx
 directive:Tx
 sample:Tx
 line:Int
 column:Int
 redirected:Bool
 deriving DecidableEq
structure LReport where
 id:Int
 born:Int
 tries:Int
 body:Tx
 deriving DecidableEq
def S0 (x:LReport):Nat:=x.body.length
def X9 (B:Nat) (x:LReport):Prop:=x.body.length≤B
theorem c3b {B:Nat} {x:LReport} (h:S0 x≤B):X9 B x:=by
 unfold S0 at h
 unfold X9
 exact by omega
structure LQueue where
 items:List LReport
 recent:List Tx
 deriving DecidableEq
def a95 (x:LQueue):Nat:=zS S0 x.items+zS List.length x.recent
def a2y (B:Nat) (x:LQueue):Prop:=bdS B (X9 B) x.items∧bdS B (fun t=>t.length≤B) x.recent
theorem c61 {B:Nat} {x:LQueue} (h:a95 x≤B):a2y B x:=by
 unfold a95 at h
 unfold a2y
 exact ⟨a7l (fun _ h=>c3b h) (show zS S0 x.items≤B by omega),a7l (fun _ h=>h) (show zS List.length x.recent≤B by omega)⟩
structure LChannel where
 group:LGroup
 peers:List LPeer
 queue:LQueue
 deriving DecidableEq
def L9 (x:LChannel):Nat:=a3y x.group+zS Z9 x.peers+a95 x.queue
def R4 (B:Nat) (x:LChannel):Prop:=a2d B x.group∧bdS B (a1n B) x.peers∧a2y B x.queue
theorem c0f {B:Nat} {x:LChannel} (h:L9 x≤B):R4 B x:=by
 unfold L9 at h
 unfold R4
 exact ⟨c62 (by omega),a7l (fun _ h=>c9h h) (show zS Z9 x.peers≤B by omega),c61 (by omega)⟩
structure LEntry where
 kind:Int
 id:Int
 at_:Int
 deriving DecidableEq
def b1x (B:Nat) (x:LEntry):Prop:=True
structure LWire where
 at_:Int
 status:Int
 group:Tx
 url:Tx
 ids:List Int
 body:Tx
 lost:Bool
 deriving DecidableEq
def a0f (x:LWire):Nat:=x.group.length+x.url.length+x.ids.length+x.body.length
def a0c (B:Nat) (x:LWire):Prop:=x.group.length≤B∧x.url.length≤B∧x.ids.length≤B∧x.body.length≤B
theorem c9e {B:Nat} {x:LWire} (h:a0f x≤B):a0c B x:=by
 unfold a0f at h
 unfold a0c
 exact ⟨by omega,by omega,by omega,by omega⟩
structure LPipe where
 channels:List LChannel
 policy:LPolicy
 now:Int
 next:Int
 log:List LEntry
 wires:List LWire
 deriving DecidableEq
def b4k (x:LPipe):Nat:=zS L9 x.channels+a17 x.policy+x.log.length+zS a0f x.wires
def a07 (B:Nat) (x:LPipe):Prop:=bdS B (R4 B) x.channels∧a0p B x.policy∧x.log.length≤B∧bdS B (a0c B) x.wires
theorem c9g {B:Nat} {x:LPipe} (h:b4k x≤B):a07 B x:=by
 unfold b4k at h
 unfold a07
 exact ⟨a7l (fun _ h=>c0f h) (show zS L9 x.channels≤B by omega),c3c (by omega),by omega,a7l (fun _ h=>c9e h) (show zS a0f x.wires≤B by omega)⟩
structure LEvent where
 kind:Int
 draw:Int
 status:Int
 ticks:Int
 text:Tx
 name:Tx
 violation:LViolation
 lost:Bool
 deriving DecidableEq
structure LParcel where
 id:Int
 age:Int
 body:Tx
 deriving DecidableEq
structure LBox where
 ids:List Int
 times:List Int
 bodies:List Tx
 deriving DecidableEq
end Go.KP
end
section
namespace Go.KP
def Y1 (p q:UInt8→Bool) (t:Tx):Bool:=(t.take 1).all p && t.all q
theorem a3p {p q:UInt8→Bool} (hpq:∀ c,p c=true→q c=true) (t:Tx) (i:Nat) (h:i < t.length):Y1 p q (t.take (i+1))=(Y1 p q (t.take i) && (if i=0 then p t[i] else q t[i])):=by
 unfold Y1
 rw [S4 t _ i h]
 by_cases hi:i=0
 · subst hi
   have:(t.take (0+1)).take 1=[t[0]]:=by
    cases t with
    | nil=>simp at h
    | cons c r=>simp
   rw [this]
   have:=hpq t[0]
   cases hp:p t[0]<;>simp_all
 · have e1:(t.take (i+1)).take 1=t.take 1:=by rw [List.take_take,Nat.min_eq_left (by omega)]
   have e2:(t.take i).take 1=t.take 1:=by rw [List.take_take,Nat.min_eq_left (by omega)]
   rw [e1,e2]
   simp [hi,Bool.and_assoc]
theorem a2s {p q:UInt8→Bool} (t:Tx) (i:Nat) (h:i < t.length) (hb:(if i=0 then p t[i] else q t[i])=false):Y1 p q t=false:=by
 unfold Y1
 by_cases hi:i=0
 · subst hi
   rw [if_pos rfl] at hb
   cases t with
   | nil=>simp at h
   | cons c r=>simp at hb;simp [hb]
 · rw [if_neg hi] at hb
   have:t.all q=false:=by rw [List.all_eq_false];exact ⟨t[i],List.getElem_mem h,by simp [hb]⟩
   simp [this]
def isUp (c:UInt8):Bool:=decide (65≤c.toNat∧c.toNat≤90)
def a10 (c:UInt8):Bool:=P9 c || isUp c || decide (c.toNat=95)
def a3w (c:UInt8):Bool:=a10 c || P7 c
def a1h (t:Tx):Bool:=decide (1≤t.length∧t.length≤12) && Y1 a10 a3w t
def a3a (c:UInt8):Bool:=P9 c || decide (c.toNat=45)
def a1y (t:Tx):Bool:=decide (1≤t.length∧t.length≤24) && Y1 P9 a3a t
def a2p (l:List Tx):Bool:=decide l.Nodup
theorem c3x (l:List Tx) (x:Tx):(l++[x]).Nodup↔l.Nodup∧x∉l:=by
 rw [List.nodup_append]
 constructor
 · rintro ⟨h1,_,h3⟩
   exact ⟨h1,fun hx=>h3 x hx x (by simp) rfl⟩
 · rintro ⟨h1,h2⟩
   refine ⟨h1,by simp,fun a ha b hb e=>?_⟩
   rw [List.mem_singleton] at hb
   subst hb;subst e
   exact h2 ha
theorem a34 (l:List Tx) (i:Nat) (h:i < l.length):a2p (l.take (i+1))=(a2p (l.take i) && decide (l[i]∉l.take i)):=by
 unfold a2p
 rw [List.take_add_one,List.getElem?_eq_getElem h,Bool.eq_iff_iff,Bool.and_eq_true,decide_eq_true_eq,decide_eq_true_eq,decide_eq_true_eq]
 exact c3x _ _
theorem b3e (l:List Tx) (i:Nat) (h:a2p (l.take i)=false):a2p l=false:=by
 unfold a2p at *
 rw [decide_eq_false_iff_not] at *
 exact fun hn=>h (hn.sublist (List.take_sublist i l))
def a1i {α:Type} (l:List α) (p:α→Bool):Int:=match l.findIdx? p with
 | some i=>i
 | none=>-1
theorem a5y {α:Type} (l:List α) (p:α→Bool):decide (0≤a1i l p)=l.any p:=by
 unfold a1i
 cases h:l.findIdx? p with
 | none=>
  rw [List.findIdx?_eq_none_iff] at h
  rw [Bool.eq_iff_iff]
  simp only [decide_eq_true_eq,List.any_eq_true]
  constructor
  · intro h;omega
  · rintro ⟨x,hx,hp⟩;rw [h x hx] at hp;cases hp
 | some i=>
  rw [List.findIdx?_eq_some_iff_getElem] at h
  obtain ⟨hi,hp,_⟩:=h
  show decide (0≤(i:Int))=_
  rw [decide_eq_true (by omega)]
  symm
  rw [List.any_eq_true]
  exact ⟨l[i],List.getElem_mem hi,hp⟩
theorem a0l {α:Type} {l:List α} {p:α→Bool} {i:Nat} (hi:i < l.length) (hp:p l[i]=true) (h:∀ k (hk:k < i),p (l[k]'(by omega))=false):a1i l p=i:=by
 unfold a1i
 have:l.findIdx? p=some i:=by
  rw [List.findIdx?_eq_some_iff_getElem]
  exact ⟨hi,hp,fun j hj=>by simp [h j hj]⟩
 rw [this]
theorem Y8 {α:Type} {l:List α} {p:α→Bool} (h:∀ k (hk:k < l.length),p l[k]=false):a1i l p=-1:=by
 unfold a1i
 have:l.findIdx? p=none:=by
  rw [List.findIdx?_eq_none_iff]
  intro x hx
  obtain ⟨k,hk,rfl⟩:=List.getElem_of_mem hx
  exact h k hk
 rw [this]
theorem b2i {α:Type} (l:List α) (p:α→Bool):(a1i l p=-1∧l.find? p=none)∨∃ i,∃ h:i < l.length,a1i l p=i∧l.find? p=some l[i]:=by
 unfold a1i
 cases h:l.findIdx? p with
 | none=>
  rw [List.findIdx?_eq_none_iff] at h
  exact .inl ⟨rfl,List.find?_eq_none.2 fun x hx=>by simp [h x hx]⟩
 | some i=>
  rw [List.findIdx?_eq_some_iff_getElem] at h
  obtain ⟨hi,hp,hlt⟩:=h
  exact .inr ⟨i,hi,rfl,List.find?_eq_some_iff_getElem.2 ⟨hp,i,hi,rfl,fun j hj=>by simpa using hlt j hj⟩⟩
theorem b2h {α:Type} (f:α→Tx) (l:List α) (i:Nat) (h:i < l.length):a1i l (fun x=>decide (f x=f l[i]))=(i:Int)↔f l[i]∉(l.map f).take i:=by
 constructor
 · intro hl hm
   unfold a1i at hl
   rw [List.mem_take_iff_getElem] at hm
   obtain ⟨k,hk,hke⟩:=hm
   have hk1:k < i:=by omega
   rw [List.getElem_map] at hke
   split at hl
   · rename_i j hj
     have:j=i:=by omega
     subst this
     rw [List.findIdx?_eq_some_iff_getElem] at hj
     have:=hj.2.2 k hk1
     simp [hke] at this
   · omega
 · intro hm
   refine a0l h (by simp) fun k hk=>?_
   rw [decide_eq_false_iff_not]
   intro e
   exact hm (by rw [List.mem_take_iff_getElem];exact ⟨k,by simp;omega,by rw [List.getElem_map];exact e⟩)
theorem a7r {α β:Type} (f:β→α→β) (b:β) (l:List α) (i:Nat) (h:i < l.length):(l.take (i+1)).foldl f b=f ((l.take i).foldl f b) l[i]:=by
 rw [List.take_add_one,List.getElem?_eq_getElem h,List.foldl_append];rfl
def b0g (t:Tx):Option Tx:=
 if (I3 t).2 && a0x (I3 t).1.scheme then some (X6 { (I3 t).1 with frag:=[],hasF:=false }) else none
theorem b1n {t:Tx} {c:UInt8} (h:c∈t):t.length=(k6 t c).length+1+(G9 t c).length:=by
 have:=W8.2 h
 unfold k6 G9
 simp;omega
theorem c1j (t:Tx):(R8 t).length=t.length:=by simp [R8]
theorem c7n {sc r:Tx} {p:Int} (h:a2q sc r=some p):r.length≤(k6 r 58).length+21:=by
 unfold a2q at h
 split at h
 · rename_i hm
   rw [b1n hm]
   split at h
   · rename_i n hn
     obtain ⟨_,_,u,_,_,h3,h4⟩:=a69 hn
     rcases h4 with ⟨h4,_⟩ | ⟨h4,_⟩
     · rw [h4];simp;omega
     · rw [h4];omega
   · cases h
 · rename_i hm
   rw [a1z hm];omega
theorem c36 {t:Tx} (h:(I3 t).2=true) (hw:a0x (I3 t).1.scheme=true):t.length≤200:=by
 have hok:=a6p h
 have hlen:=b5p hok
 unfold I3 at h hw hlen
 split at h
 · rename_i h58
   rw [if_pos h58] at hw hlen
   dsimp only at h hw hlen
   split at h
   · rename_i hsc
     rw [if_pos hsc] at hw hlen
     split at h
     · rename_i h2
       rw [if_pos h2] at hw hlen
       rw [b1n h58]
       have hr:(G9 t 58).length≤2+((G9 t 58).drop 2).length:=by simp;omega
       have hscl:=c1j (k6 t 58)
       generalize (G9 t 58).drop 2=r0 at *
       generalize R8 (k6 t 58)=sc at *
       unfold a5x at h hw hlen
       dsimp only at h hw hlen
       have k0:r0.length≤(k6 r0 35).length+(if 35∈r0 then 1+(G9 r0 35).length else 0):=by
        split
        · rename_i hm;rw [b1n hm];omega
        · rename_i hm;rw [a1z hm];omega
       generalize k6 r0 35=r1 at *
       have k1:r1.length≤(k6 r1 63).length+(if 63∈r1 then 1+(G9 r1 63).length else 0):=by
        split
        · rename_i hm;rw [b1n hm];omega
        · rename_i hm;rw [a1z hm];omega
       generalize k6 r1 63=r2 at *
       have k2:r2.length≤(k6 r2 47).length+(if 47∈r2 then r2.drop (N3 r2 47) else [47]).length:=by
        split
        · unfold k6;simp;omega
        · rename_i hm;rw [a1z hm];omega
       generalize (if 47∈r2 then r2.drop (N3 r2 47) else [47])=pa at *
       generalize k6 r2 47=r3 at *
       have k3:r3.length≤(if 64∈r3 then G9 r3 64 else r3).length+1+(if 64∈r3 then k6 r3 64 else []).length:=by
        split
        · rename_i hm;rw [b1n hm];omega
        · simp
       generalize (if 64∈r3 then G9 r3 64 else r3)=r4 at *
       generalize (if 64∈r3 then k6 r3 64 else [])=us at *
       cases hp:a2q sc r4 with
       | none=>rw [hp] at h;cases h
       | some p=>
        rw [hp] at hlen
        have k4:=c7n hp
        have k5:=c1j (k6 r4 58)
        dsimp only at hlen
        unfold X6 at hlen
        dsimp only at hlen
        rw [if_pos hsc] at hlen
        simp only [List.length_append,List.length_cons,List.length_nil] at hlen
        have q1:us.length≤(if us=[] then [] else us++[64]).length:=by split<;>simp_all
        have q2:(if 63∈r1 then 1+(G9 r1 63).length else 0)≤(if decide (63∈r1)=true then 63 :: G9 r1 63 else []).length:=by
         by_cases hm:63∈r1<;>simp [hm];omega
        have q3:(if 35∈r0 then 1+(G9 r0 35).length else 0)≤(if decide (35∈r0)=true then 35 :: G9 r0 35 else []).length:=by
         by_cases hm:35∈r0<;>simp [hm];omega
        omega
     · cases h
   · rename_i hsc
     rw [if_neg hsc] at hw
     exact absurd hw hsc
 · cases h
theorem b7l (t:Tx):a26 t=b0g t:=by
 unfold a26 b0g
 by_cases hb:((I3 t).2 && a0x (I3 t).1.scheme)=true
 · have h:=hb
   simp only [Bool.and_eq_true] at h
   have hl:=c36 h.1 h.2
   rw [if_pos (by omega),if_pos hb,if_pos hb]
   rw [a8d]
   exact (a8b (a6p h.1):0≤(I3 t).1.port)
 · rw [if_neg hb,if_neg hb];split<;>rfl
def a30:Tx:=[114,101,112,111,114,116,45,116,111]
def a1u:Tx:=[114,101,112,111,114,116,45,117,114,105]
def a0k (w:Tx):Bool:=decide (w≠[]) && w.all fun c=>!decide (c.toNat=32∨c.toNat=9∨c.toNat=59)
def X2 (r:LRule):Bool:=a1y r.name && decide (r.words.length≤8) && r.words.all a0k
def W7 (l:List LRule) (name:Tx):List Tx:=match l.find? (fun r=>decide (r.name=name)) with
 | some r=>r.words
 | none=>[]
def a5k (ws:List Tx):Tx:=match ws with
 | w :: _=>if a1h w then w else []
 | []=>[]
def a3l (l:List LRule):Tx:=a5k (W7 l a30)
def Q3 (acc:List Tx) (w:Tx):List Tx:=match b0g w with
 | some u=>if u∉acc∧acc.length < 4 then acc++[u] else acc
 | none=>acc
def a3k (l:List LRule):List Tx:=(W7 l a1u).foldl Q3 []
theorem c0k (acc:List Tx) (w:Tx) (h:acc.length≤4):(Q3 acc w).length≤4:=by
 unfold Q3
 split
 · split
   · simp;omega
   · exact h
 · exact h
theorem a7y:∀ (l:List Tx) (acc:List Tx),acc.length≤4→(l.foldl Q3 acc).length≤4
 | [],_,h=>h
 | w :: l,acc,h=>a7y l _ (c0k acc w h)
def Y7 (p:LPolicy):Bool:=
 decide (p.rules.length≤8) && (p.rules.all X2 && a2p (p.rules.map fun r=>r.name)) && (decide (p.reportTo=a3l p.rules) && decide (p.uris=a3k p.rules))
def a2r (g:LGroup):Bool:=
 a1h g.name && decide (1≤g.age∧g.age≤100) && decide (1≤g.targets.length∧g.targets.length≤4) && (g.targets.all P6 && a2p (g.targets.map fun t=>t.url))
end Go.KP
end
section
namespace Go.KP
def mkL {α:Type} (f:Nat→α) (w n k:Nat):List α:=(List.range n).map fun j=>f (k+w*j)
theorem a1o {α:Type} (f:Nat→α) (w n k:Nat):(mkL f w n k).length=n:=by simp [mkL]
theorem mkL_at {α:Type} {f:Nat→α} {w n k j:Nat} (h:j < n):(mkL f w n k)[j]'(by rw [a1o];exact h)=f (k+w*j):=by simp [mkL]
theorem d0a {α:Type} (f:Nat→α) (w i k:Nat):mkL f w (i+1) k=mkL f w i k++[f (k+w*i)]:=by simp [mkL,List.range_succ]
def mkU {α:Type} (f:Nat→α) (w:Nat) (l:List α) (k i:Nat):List α:=mkL f w i k++l.drop i
theorem a6l {α:Type} (f:Nat→α) (w:Nat) (l:List α) (k:Nat):mkU f w l k 0=l:=by simp [mkU,mkL]
theorem a9e {α:Type} (f:Nat→α) (w:Nat) (l:List α) (k:Nat):mkU f w l k l.length=mkL f w l.length k:=by simp [mkU]
theorem a9d {α:Type} (f:Nat→α) (w:Nat) (l:List α) (k i:Nat) (h:i≤l.length):(mkU f w l k i).length=l.length:=by simp [mkU,a1o];omega
theorem a9c {α:Type} (f:Nat→α) (w:Nat) (l:List α) (k i:Nat) (h:i < l.length):(mkU f w l k i).set i (f (k+w*i))=mkU f w l k (i+1):=by
 unfold mkU
 rw [List.set_append_right _ _ (by rw [a1o];exact Nat.le_refl _),a1o,Nat.sub_self,List.drop_eq_getElem_cons h,List.set_cons_zero,d0a,List.append_assoc]
 rfl
def a1w (k:Nat):LTarget:=⟨lmk k,((k+1:Nat):Int),((k+2:Nat):Int)⟩
theorem b8r (l:List LTarget):Z4 l=a2p (l.map fun t=>t.url):=by
 have key:∀ i,i≤l.length→Z4 (l.take i)=a2p ((l.map fun t=>t.url).take i):=by
  intro i
  induction i with
  | zero=>intro _;simp [Z4,a2p,T8]
  | succ i ih=>
   intro hi
   rw [b01 l i (by omega),a34 _ i (by simp;omega),ih (by omega)]
   simp only [List.getElem_map,List.map_take]
 have:=key l.length (Nat.le_refl _)
 rw [List.take_length,List.take_of_length_le (by simp)] at this
 exact this
end Go.KP
end
section
namespace Go.KP
def a0q (n:Nat) (p:Nat→Bool):Bool:=(List.range n).all p
theorem a1l (p:Nat→Bool):a0q 0 p=true:=rfl
theorem a08 (p:Nat→Bool) (n:Nat):a0q (n+1) p=(a0q n p && p n):=by simp [a0q,List.range_succ]
theorem a4u {p:Nat→Bool} {n i:Nat} (hi:i < n) (h:p i=false):a0q n p=false:=by
 unfold a0q
 rw [List.all_eq_false]
 exact ⟨i,List.mem_range.2 hi,by simp [h]⟩
def Y6 (r:LReport):Bool:=decide (1≤r.id∧r.id≤1000000) && decide (0≤r.born∧r.born≤1000000) && decide (0≤r.tries∧r.tries≤3) && decide (1≤r.body.length∧r.body.length≤8000)
def a5b (l:List LReport) (i:Nat):Bool:=match l[i]? with
 | some r=>Y6 r && (match i with
  | 0=>true
  | j+1=>match l[j]? with
   | some s=>decide (s.id < r.id) && decide (s.born≤r.born)
   | none=>true)
 | none=>true
theorem b48 {l:List LReport} (h:0 < l.length):a5b l 0=Y6 l[0]:=by
 unfold a5b
 rw [List.getElem?_eq_getElem h]
 simp
theorem b49 {l:List LReport} {j:Nat} (h:j+1 < l.length):a5b l (j+1)=(Y6 l[j+1] && (decide (l[j].id < l[j+1].id) && decide (l[j].born≤l[j+1].born))):=by
 have e:=List.getElem?_eq_getElem (show j < l.length by omega)
 simp only [a5b,List.getElem?_eq_getElem h,e]
def a9u (l:List Tx) (i:Nat):Bool:=match l[i]? with
 | some t=>decide (1≤t.length∧t.length≤8000) && decide (t∉l.take i)
 | none=>true
theorem c0y {l:List Tx} {i:Nat} (h:i < l.length):a9u l i=(decide (1≤l[i].length∧l[i].length≤8000) && decide (l[i]∉l.take i)):=by
 unfold a9u
 rw [List.getElem?_eq_getElem h]
def S7 (q:LQueue):Bool:=decide (q.items.length≤5) && decide (q.recent.length≤6) && (a0q q.items.length (a5b q.items) && a0q q.recent.length (a9u q.recent))
def Q1 (next now:Int) (c:LChannel):Bool:=a2r c.group && X7 c.peers && decide (c.peers.map (fun p=>p.target)=c.group.targets) && S7 c.queue && c.queue.items.all fun r=>decide (r.id < next) && decide (r.born≤now)
def a8i (next:Int) (l:List Int) (i:Nat):Bool:=match l[i]? with
 | some r=>decide (1≤r∧r≤next - 1) && (match i with
  | 0=>true
  | j+1=>match l[j]? with
   | some s=>decide (s < r)
   | none=>true)
 | none=>true
theorem b8d {next:Int} {l:List Int} (h:0 < l.length):a8i next l 0=decide ((1:Int)≤l[0]∧l[0]≤next - 1):=by
 unfold a8i
 rw [List.getElem?_eq_getElem h]
 simp
theorem b8e {next:Int} {l:List Int} {j:Nat} (h:j+1 < l.length):a8i next l (j+1)=(decide ((1:Int)≤l[j+1]∧l[j+1]≤next - 1) && decide (l[j] < l[j+1])):=by
 have e:=List.getElem?_eq_getElem (show j < l.length by omega)
 simp only [a8i,List.getElem?_eq_getElem h,e]
def Y0 (next now:Int) (w:LWire):Bool:=decide (0≤w.at_∧w.at_≤now) && decide (100≤w.status∧w.status≤599) && a1h w.group && decide (w.url.length≤100) && decide (1≤w.ids.length∧w.ids.length≤3) && decide (w.body.length≤65536) && a0q w.ids.length (a8i next w.ids)
def a4r (next now:Int) (l:List LEntry) (i:Nat):Bool:=match l[i]? with
 | some x=>decide (1≤x.kind∧x.kind≤7) && decide (1≤x.id∧x.id≤next - 1) && decide ((match i with | 0=>0 | j+1=>match l[j]? with | some y=>y.at_ | none=>0)≤x.at_∧x.at_≤now)
 | none=>true
def a93 (l:List LEntry):Nat→Int
 | 0=>0
 | j+1=>match l[j]? with | some y=>y.at_ | none=>0
theorem b6f {next now:Int} {l:List LEntry} {i:Nat} (h:i < l.length):a4r next now l i=(decide (1≤l[i].kind∧l[i].kind≤7) && decide (1≤l[i].id∧l[i].id≤next - 1) && decide (a93 l i≤l[i].at_∧l[i].at_≤now)):=by
 unfold a4r
 rw [List.getElem?_eq_getElem h]
 cases i<;>rfl
theorem b0p {l:List LEntry} {i:Nat} (h:i < l.length):a93 l (i+1)=l[i].at_:=by
 simp only [a93,List.getElem?_eq_getElem h]
theorem b1s {next now:Int} {l:List LEntry}:∀ {i:Nat},i≤l.length→a0q i (a4r next now l)=true→0≤a93 l i
 | 0,_,_=>Int.le_refl 0
 | i+1,hi,h=>by
  rw [a08,Bool.and_eq_true] at h
  have ih:=b1s (i:=i) (by omega) h.1
  have h2:=h.2
  rw [b6f (by omega)] at h2
  simp only [Bool.and_eq_true,decide_eq_true_eq] at h2
  rw [b0p (by omega)]
  omega
def a3r (p:LPipe) (i:Nat):Bool:=match p.channels[i]? with
 | some c=>decide (c.group.name∉(p.channels.map fun c=>c.group.name).take i) && Q1 p.next p.now c
 | none=>true
theorem a6u {p:LPipe} {i:Nat} (h:i < p.channels.length):a3r p i=(decide (p.channels[i].group.name∉(p.channels.map fun c=>c.group.name).take i) && Q1 p.next p.now p.channels[i]):=by
 unfold a3r
 rw [List.getElem?_eq_getElem h]
def M1 (p:LPipe):Bool:=decide (p.channels.length≤5) && Y7 p.policy && decide (0≤p.now∧p.now≤1000000) && decide (1≤p.next∧p.next≤1000000) && decide (p.log.length≤4096) && decide (p.wires.length≤4096) &&
 (a0q p.channels.length (a3r p) && a0q p.log.length (a4r p.next p.now p.log) && p.wires.all (Y0 p.next p.now))
theorem b1i {q:LQueue} {i:Nat} (hi:i < q.items.length) (h:a5b q.items i=false):S7 q=false:=by
 unfold S7;rw [a4u hi h];simp
theorem b1j {q:LQueue} {i:Nat} (hi:i < q.recent.length) (h:a9u q.recent i=false):S7 q=false:=by
 unfold S7;rw [a4u hi h];simp
end Go.KP
end
section
namespace Go.KP
end Go.KP
end
section
namespace Go.PW
open Go.RowKit Go.KP
theorem u8_eq {a b:UInt8}:((a.toNat:Int)=(b.toNat:Int))↔a=b:=by
 constructor
 · intro h;exact UInt8.toNat_inj.1 (by omega)
 · rintro rfl;rfl
def rvb (c:UInt8):RV:=.int .u8 c.toNat
def tx (t:Tx):RV:=.str (bs t)
def num (n:Int):RV:=.int .i64 n
theorem c24 (l:Tx):Z7 (l.map rvb)=bs l:=by
 unfold Z7 bs
 congr 1
 congr 1
 rw [List.map_map]
 have:(RV.byte ∘ rvb)=id:=by
  funext c
  simp [rvb,RV.byte]
 rw [this];simp
theorem b38 {x:Int} (h1:0≤x) (h2:x < 256):IntKind.u8.wrap x=x:=by
 unfold IntKind.wrap
 simp [IntKind.bits,IntKind.signed]
 omega
def X5 (u:LUrl):RV:=.agg [tx u.scheme,tx u.user,tx u.host,num u.port,tx u.path,tx u.query,tx u.frag,.bool u.hasQ,.bool u.hasF]
end Go.PW
end
section
namespace Go.PW
open Go.RowKit Go.KP
variable [GF]
theorem b5b (φ:Nat→Option RV) (rs:List RV):PV.plL (PV.frzL φ (rs.map .val))=rs.map .val:=by
 induction rs with
 | nil=>rfl
 | cons r rs ih=>simp [PV.frzL,PV.plL,PV.frz,PV.pl,ih]
theorem c55 {st:St} {s n t id:Nat} {rs:List RV} {r:RV} (h1:st.env s=.ptr id 0) (h2:st.mem id=.box (rs.map .val)) (h3:rs.length=n) (h4:0 < n) (h5:st.env t=.val r) :
 T9 [.c s true n,.t t] st.fin=some (.tup [M3 (rs.map .val),.val r]):=by
 have e1:st.fin.env s=.ptr id 0:=by rw [M0,h1];simp [PV.frz,a1p,h2,PV.pl]
 have e2:st.fin.mem id=.box (rs.map .val):=by
  simp only [St.fin,St.freeze,h2,MObj.pl,b5b]
 have e3:st.fin.env t=.val r:=by rw [M0,h5];rfl
 simp only [T9,a71,a49,e1,e2,e3]
 simp only [List.length_map,h3,Nat.zero_add,List.drop_zero,if_true]
 rw [if_pos ⟨by omega,h4⟩,List.take_of_length_le (by simp [h3])]
 rfl
theorem b8x {st:St} {s n id:Nat} {rs:List RV} (h1:st.env s=.ptr id 0) (h2:st.mem id=.box (rs.map .val)) (h3:rs.length=n) (h4:0 < n) :
 T9 [.c s true n] st.fin=some (M3 (rs.map .val)):=by
 have e1:st.fin.env s=.ptr id 0:=by rw [M0,h1];simp [PV.frz,a1p,h2,PV.pl]
 have e2:st.fin.mem id=.box (rs.map .val):=by
  simp only [St.fin,St.freeze,h2,MObj.pl,b5b]
 simp only [T9,a49,e1,e2]
 simp only [List.length_map,h3,Nat.zero_add,List.drop_zero,if_true]
 rw [if_pos ⟨by omega,h4⟩,List.take_of_length_le (by simp [h3])]
def b21 (u:LUrl):List RV:=[tx u.scheme,tx u.user,tx u.host,num u.port,tx u.path,tx u.query,tx u.frag,.bool u.hasQ,.bool u.hasF]
def f5 (u:LUrl):List PV:=[.val (tx u.scheme),.val (tx u.user),.val (tx u.host),.val (num u.port),.val (tx u.path),.val (tx u.query),.val (tx u.frag),.val (.bool u.hasQ),.val (.bool u.hasF)]
theorem b22 (u:LUrl):f5 u=(b21 u).map .val:=rfl
def a6k (r:LUrl×Bool):PV:=.tup [.val (X5 r.1),.val (.bool r.2)]
theorem b78 (u:LUrl):M3 ((b21 u).map .val)=.val (X5 u):=by simp [b21,M3,i7,X5]
theorem a72 {st:St} {s t id:Nat} {u:LUrl} {b:Bool} (h1:st.env s=.ptr id 0) (h2:st.mem id=.box (f5 u)) (h5:st.env t=.val (.bool b)):T9 [.c s true 9,.t t] st.fin=some (a6k (u,b)):=by
 rw [c55 (n:=9) (rs:=b21 u) h1 (by rw [h2,b22]) rfl (by omega) h5,b78]
 rfl
def f9 (x:LTarget):RV:=.agg [tx x.url,num x.prio,num x.weight]
def A6 (x:LPeer):RV:=.agg [tx x.target.url,num x.target.prio,num x.target.weight,num x.fails,num x.retry,.bool x.gone]
def P8 (l:List LPeer):RV:=.list 6 (l.map A6)
theorem a8w {P:Program} {st:St} {Ke:Kx (PV→St→Prop)} {kx:Kx (RV→St→Prop)} {d f ps as p} (ha:a4t st.mem ps=some as) (hb:boxIds ps=[]) (hs:∀ b,p.shift b=p) (ho:p.ownLt 0=true) (hr:ps.all PV.noOwn=true∨p.flat=true) (h:d8 P f as (.ret p []) []) (hK:Ke.k p st):KC P st d f ps (Ke:=Ke) (kx:=kx):=by
 refine a5o (K:=fun q st'=>q=p∧st'=st) (kx:=fun _ _=>False) (fun p s hh=>by obtain ⟨rfl,rfl⟩:=hh;exact hK) (fun _ _ hh=>hh.elim) (a57 ?_)
 unfold a40
 rw [ha]
 exact ⟨hb,p,h,hs,ho,hr,rfl⟩
theorem Z0 {P:Program} {st:St} {Ke:Kx (PV→St→Prop)} {kx:Kx (RV→St→Prop)} {d f ps as a b} (ha:a4t st.mem ps=some as) (hb:boxIds ps=[]) (hr:ps.all PV.noOwn=true∨(PV.tup [.val a,.val b]).flat=true) (h:d8 P f as (.ret (.tup [.val a,.val b]) []) []) (hK:Ke.k (.tup [.val a,.val b]) st):KC P st d f ps (Ke:=Ke) (kx:=kx):=
 a8w ha hb (fun _=>rfl) rfl hr h hK
theorem a14 {P:Program} {st:St} {Ke:Kx (PV→St→Prop)} {kx:Kx (RV→St→Prop)} {d f ps as a b c} (ha:a4t st.mem ps=some as) (hb:boxIds ps=[]) (hr:ps.all PV.noOwn=true∨(PV.tup [.val a,.val b,.val c]).flat=true) (h:d8 P f as (.ret (.tup [.val a,.val b,.val c]) []) []) (hK:Ke.k (.tup [.val a,.val b,.val c]) st):KC P st d f ps (Ke:=Ke) (kx:=kx):=
 a8w ha hb (fun _=>rfl) rfl hr h hK
end Go.PW
end
section
namespace Go.PW
open Go.RowKit Go.KP
variable [GF]
def RV.sv:RV→Option Value
 | .str s=>some (.string s)
 | .int k n=>some (.int k n)
 | .bool b=>some (.bool b)
 | _=>none
def svs:List RV→Option (List Value)
 | []=>some []
 | r :: rs=>match r.sv,svs rs with
  | some v,some vs=>some (v :: vs)
  | _,_=>none
theorem sv_rep {L:Nat→Prop} {w:World} {r:RV} {v u:Value} (h:r.sv=some v) (hr:RepR L w r u):u=v:=by
 cases hr with
 | bool b=>simpa [RV.sv] using h
 | int k n=>simpa [RV.sv] using h
 | str s=>simpa [RV.sv] using h
 | _=>simp [RV.sv] at h
theorem c5y {L:Nat→Prop} {w:World} {r:RV} {v:Value} (h:r.sv=some v):RepR L w r v:=by
 cases r with
 | bool b=>simp [RV.sv] at h;subst h;exact .bool b
 | int k n=>simp [RV.sv] at h;subst h;exact .int k n
 | str s=>simp [RV.sv] at h;subst h;exact .str s
 | _=>simp [RV.sv] at h
theorem c0c {L:Nat→Prop} {w:World}:∀ {rs:List RV} {vals vs:List Value} {ms:List Nat},svs rs=some vals→ArgsRep L w (rs.map .val) vs ms→vs=vals∧ms=[]
 | [],vals,vs,ms,h,hr=>by
  simp [svs] at h;subst h
  cases hr;exact ⟨rfl,rfl⟩
 | r :: rs,vals,vs,ms,h,hr=>by
  rw [List.map_cons] at hr
  cases hr with
  | cons _ _ v vs' ms1 ms2 h1 h2=>
   cases h1 with
   | val _ _ h1=>
    simp only [svs] at h
    split at h
    · rename_i v' vs'' e1 e2
      obtain ⟨rfl,rfl⟩:=c0c e2 h2
      have:=sv_rep e1 h1
      subst this
      have:=Option.some.inj h
      exact ⟨this,rfl⟩
    · cases h
theorem b3c {F:Ctx} {γ:Nat→Value} {w:World}:MemInv F γ (A7 []) w:=
 ⟨fun id cs h=>by simp [A7] at h,fun id E sz xs h=>by simp [A7] at h,fun id E sz n c h=>by simp [A7] at h,fun id s clk m h=>by simp [A7] at h,fun id id' b h=>by simp [A7,MObj.live] at h⟩
theorem b8j {P:Program} {f:Nat} {rs:List RV} {vals:List Value} {p:PV} {v:Value} (ha:svs rs=some vals) (hp:∀ γ L w,RepP γ L w p v)
 (h:∀ L w,Globs L w→b7x L w→Calls P f vals.toArray w fun e w'=>e=.returned v∧Below w.heap.size w w'):d8 P f (rs.map .val) (.ret p []) []:=by
 intro L w vs ms hL hgl hgb hargs hnd
 obtain ⟨rfl,rfl⟩:=c0c ha hargs
 refine (h L w hgl hgb).mono fun e w' ⟨he,hb⟩=>?_
 exact ⟨Outside.of_below hb,v,fun _=>undef,he,hp _ _ _,b3c,rfl,fun i b cells h1 h2=>by simp at h1⟩
theorem a27 {P:Program} {f:Nat} {rs:List RV} {vals:List Value} {r:RV} {v:Value} (ha:svs rs=some vals) (hv:r.sv=some v)
 (h:∀ L w,Globs L w→b7x L w→Calls P f vals.toArray w fun e w'=>e=.returned v∧Below w.heap.size w w'):d8 P f (rs.map .val) (.ret (.val r) []) []:=
 b8j ha (fun γ L w=>.val _ _ (c5y hv)) h
theorem b4y:∀ {rs:List RV} {vals:List Value},svs rs=some vals→vals.length=rs.length
 | [],vals,h=>by simp [svs] at h;subst h;rfl
 | r :: rs,vals,h=>by
  simp only [svs] at h
  split at h
  · rename_i v vs e1 e2
    have:=b4y e2
    have h:=Option.some.inj h
    subst h;simp [this]
  · cases h
theorem c0l {L:Nat→Prop} {w:World}:∀ {rs:List RV} {vals:List Value},svs rs=some vals→∀ i,i < rs.length→RepR L w (rs.getD i .nilptr) (vals.getD i undef)
 | [],vals,h,i,hi=>by simp at hi
 | r :: rs,vals,h,i,hi=>by
  simp only [svs] at h
  split at h
  · rename_i v vs e1 e2
    have h:=Option.some.inj h
    subst h
    cases i with
    | zero=>simpa using c5y e1
    | succ i=>simpa using c0l e2 i (by simpa using hi)
  · cases h
theorem b6m {P:Program} {f:Nat} {rs:List RV} {vals:List Value} {qs:List RV} {us:List Value} (ha:svs rs=some vals) (hv:svs qs=some us)
 (h:∀ L w,Globs L w→b7x L w→Calls P f vals.toArray w fun e w'=>e=.returned (.tuple us.toArray)∧Below w.heap.size w w'):d8 P f (rs.map .val) (.ret (.tup (qs.map .val)) []) []:=
 b8j ha (fun γ L w=>.tup _ _ (by simp [b4y hv]) fun i hi=>by
  have hi':i < qs.length:=by simpa using hi
  have e1:(qs.map PV.val).getD i .undef=.val (qs.getD i .nilptr):=by simp [List.getD_eq_getElem?_getD,List.getElem?_eq_getElem hi']
  have e2:us.toArray.getD i undef=us.getD i undef:=by simp [List.getD_eq_getElem?_getD,Array.getD_eq_getD_getElem?]
  rw [e1,e2]
  exact .val _ _ (c0l hv i hi')) h
theorem a5r {w w':World} (h:w'=w):Below w.heap.size w w':=by subst h;exact Below.refl _ _
end Go.PW
end
section
namespace Go.PW
open Go.RowKit Go.KP
variable [GF]
def a3e (M:Nat→MObj):List Nat→List (List RV)→Prop
 | [],[]=>True
 | id :: ids,b :: bs=>M id=.box (b.map .val)∧a3e M ids bs
 | _,_=>False
def R7 (M:Nat→MObj):Nat→List (List RV)→Prop
 | _,[]=>True
 | k,b :: bs=>M (900+k)=.box (b.map .val)∧R7 M (k+1) bs
theorem a9t:∀ {M:Nat→MObj} {ids:List Nat} {B:List (List RV)},a3e M ids B→V7 M ids B=M
 | M,[],[],_=>rfl
 | M,id :: ids,b :: bs,h=>by
  have e:upd id (.box (b.map .val)) M=M:=by
   funext x
   by_cases hx:x=id
   · subst hx;rw [Q2,h.1]
   · rw [Q0 _ _ _ _ hx]
  simp only [V7]
  rw [e]
  exact a9t h.2
 | M,[],_ :: _,h=>h.elim
 | M,_ :: _,[],h=>h.elim
theorem b70:∀ {M:Nat→MObj} {ids:List Nat} {B:List (List RV)},a3e M ids B→B.length=ids.length
 | M,[],[],_=>rfl
 | M,id :: ids,b :: bs,h=>by simp [b70 h.2]
 | M,[],_ :: _,h=>h.elim
 | M,_ :: _,[],h=>h.elim
theorem c9j (b:List RV):G6 (b.map .val)=some b:=by
 induction b with
 | nil=>rfl
 | cons r b ih=>simp [G6,ih]
theorem b1w {st:St}:∀ {k:Nat} {B:List (List RV)},R7 st.mem k B→a6w st.fin k B
 | k,[],_=>trivial
 | k,b :: B,h=>by
  have e2:st.fin.mem (900+k)=.box (b.map .val):=by
   simp only [St.fin,St.freeze,h.1,MObj.pl,b5b]
  exact ⟨by rw [e2];exact c9j b,b1w h.2⟩
def RetB (res:List Rs) (p:PV) (B:List (List RV)):PExit→St→Prop
 | .normal,st=>T9 res st.fin=some p∧R7 st.mem 0 B
 | .ret,st=>T9 res st.fin=some p∧R7 st.mem 0 B
 | _,_=>False
@[simp] theorem S8 {res p B} {st:St}:RetB res p B .ret st=(T9 res st.fin=some p∧R7 st.mem 0 B):=by rfl
@[simp] theorem RetB_normal {res p B} {st:St}:RetB res p B .normal st=(T9 res st.fin=some p∧R7 st.mem 0 B):=by rfl
theorem V4 {P:Program} {f:Nat} {c:PC} {res:List Rs} {as:List AV} {p:PV} {B:List (List RV)} (hm:P.follows .mixedOrders=true) (hc:j4 P f c as.length res=true) (hb:b9 as=B) (hp:∀ ι,p.ren ι=p)
 (h:a0n P c (d9 as) (RetB res p B)):d8 P f as (.ret p []) B:=by
 refine b4g hm hc (V1 (fun e s hh=>?_) h)
 have key:T9 res s.fin=some p∧R7 s.mem 0 B→∃ st',Le s st'∧c0e res (b9 as).length (.ret p []) B .ret st':=fun hh=>
  ⟨s.fin,(Le.freeze s _).trans (Le.plain _),(by rw [hb]),⟨⟨id,by rw [hp];exact hh.1,fun i j hi=>by simp at hi,fun i r hr=>by simp at hr⟩,b1w hh.2⟩⟩
 cases e with
 | normal=>exact key hh
 | ret=>exact key hh
 | exit id=>exact hh.elim
 | pan r=>exact hh.elim
theorem b9m (st:St):st.kill (fun _=>false)=st:=by
 cases st with
 | mk env mem=>
  simp only [St.kill,PV.kill_none]
  congr 1
  funext x
  cases mem x with
  | dead=>rfl
  | row E sz xs=>rfl
  | box cs=>simp [MObj.kill,PV.killL_none]
  | prow E sz n c=>simp [MObj.kill,PV.kill_none]
  | map s clk m => 
   have:(fun k=>(m k).map fun p=>(p.1.kill fun _=>false,p.2))=m:=by funext k;cases m k<;>simp [PV.kill_none]
   simp only [MObj.kill,this];rfl
theorem T6 {P:Program} {st:St} {Ke:Kx (PV→St→Prop)} {kx:Kx (RV→St→Prop)} {d f ps as r ids B} (ha:a4t st.mem ps=some as) (hb:boxIds ps=ids) (hn:ids.Nodup) (hlt:ids.all (· < l5 d)=true) (hB:a3e st.mem ids B) (hr:ps.all PV.noOwn=true)
 (h:d8 P f as (.ret (.val r) []) B) (hK:Ke.k (.val r) st):KC P st d f ps (Ke:=Ke) (kx:=kx):=by
 unfold KC
 refine .inl ?_
 unfold a8x
 rw [ha]
 refine ⟨by rw [hb];exact hn,by rw [hb];exact hlt,.ret (.val r) [],B,h,by rw [hb];exact b70 hB,rfl,.inl hr,?_⟩
 have e:(fun i=>decide (l5 d≤i) && decide (i < l5 d+([]:List Row).length))=fun _=>false:=by
  funext i
  simp only [List.length_nil,Nat.add_zero,Bool.and_eq_false_imp,decide_eq_true_eq,decide_eq_false_iff_not]
  omega
 rw [e,b9m]
 simp only [U2,hb]
 rw [a9t hB]
 exact hK
end Go.PW
end
section
namespace Go.PW
open Go.RowKit Go.KP
def a3g {α:Type} (r:α→RV) (z:RV) (l:List α) (i:Nat):List RV:=(l.take i).map r++List.replicate (l.length - i) z
theorem a47 {α:Type} (r:α→RV) (z:RV) (l:List α):a3g r z l 0=List.replicate l.length z:=by simp [a3g]
theorem a6i {α:Type} (r:α→RV) (z:RV) (l:List α):a3g r z l l.length=l.map r:=by simp [a3g]
theorem a6h {α:Type} (r:α→RV) (z:RV) (l:List α) (i:Nat) (h:i≤l.length):(a3g r z l i).length=l.length:=by simp [a3g];omega
theorem a6g {α:Type} (r:α→RV) (z:RV) (l:List α) (i:Nat) (h:i < l.length):(a3g r z l i).set i (r l[i])=a3g r z l (i+1):=by
 unfold a3g
 have h1:l.length - i=(l.length - (i+1))+1:=by omega
 have h2:((l.take i).map r).length=i:=by simp;omega
 rw [h1,List.replicate_succ,List.set_append_right _ _ (by omega),h2,Nat.sub_self,List.set_cons_zero]
 rw [List.take_add_one,List.getElem?_eq_getElem h,List.map_append,List.append_assoc]
 rfl
theorem a86 {α:Type} (r:α→RV) (z:RV) (l:List α) (i:Nat) (h:i < l.length):(a3g r z l i)[i]?.getD .nilptr=z:=by
 unfold a3g
 have h1:l.length - i=(l.length - (i+1))+1:=by omega
 have h2:((l.take i).map r).length=i:=by simp;omega
 rw [h1,List.replicate_succ,List.getElem?_append_right (by omega),h2]
 simp
def Z2 (o:Option Tx):PV:=.tup [.val (tx (o.getD [])),.val (.bool o.isSome)]
theorem b8w [GF] {st:St} {s n id:Nat} {cs:List PV} {rs:List RV} (h1:st.env s=.ptr id 0) (h2:st.mem id=.box cs) (hz:PV.plL (PV.frzL (a1p st fun _=>true) cs)=rs.map .val) (h3:rs.length=n) (h4:0 < n) :
 T9 [.c s true n] st.fin=some (M3 (rs.map .val)):=by
 have e1:st.fin.env s=.ptr id 0:=by rw [M0,h1];simp [PV.frz,a1p,h2,PV.pl]
 have e2:st.fin.mem id=.box (rs.map .val):=by
  simp only [St.fin,St.freeze,h2,MObj.pl]
  rw [hz]
 simp only [T9,a49,e1,e2]
 simp only [List.length_map,h3,Nat.zero_add,List.drop_zero,if_true]
 rw [if_pos ⟨by omega,h4⟩,List.take_of_length_le (by simp [h3])]
def c6b {α:Type} (sz id:Nat):List α→PV
 | []=>.emp sz
 | _ :: _=>.own id
def c9s {α:Type} (E sz:Nat) (r:α→RV):List α→MObj
 | []=>.dead
 | x :: xs=>.row E sz ((x :: xs).map r)
@[simp] theorem c7f {α:Type} (sz id:Nat):c6b sz id ([]:List α)=.emp sz:=rfl
@[simp] theorem ownOr_cons {α:Type} (sz id:Nat) (x:α) (xs:List α):c6b sz id (x :: xs)=.own id:=rfl
@[simp] theorem rowOr_nil {α:Type} (E sz:Nat) (r:α→RV):c9s E sz r []=.dead:=rfl
@[simp] theorem rowOr_cons {α:Type} (E sz:Nat) (r:α→RV) (x:α) (xs:List α):c9s E sz r (x :: xs)=.row E sz (r x :: xs.map r):=rfl
theorem Le.mkD [GF] {st:St} (le:List (Nat×PV)) (lm:List (Nat×MObj)) (h1:∀ kp∈le,st.env kp.1=kp.2) (h2:∀ kp∈lm,kp.2=.dead∨st.mem kp.1=kp.2):Le st ⟨u0 le,u5 lm⟩:=by
 refine Le.drop (fun i=>?_) (fun x=>?_)
 · show u5 lm i=st.mem i∨u5 lm i=.dead
   induction lm with
   | nil=>exact .inr rfl
   | cons kp lm ih=>
    obtain ⟨k,o⟩:=kp
    simp only [u5]
    split
    · rename_i e;subst e
      rcases h2 (i,o) (by simp) with h | h
      · exact .inr h
      · exact .inl h.symm
    · exact ih fun kp hkp=>h2 kp (by simp [hkp])
 · show Wk (st.env x) (u0 le x)
   induction le with
   | nil=>exact .undef _
   | cons kp le ih=>
    obtain ⟨k,p⟩:=kp
    simp only [u0]
    split
    · rename_i e;subst e;rw [h1 (x,p) (by simp)];exact .refl p
    · exact ih fun kp hkp=>h1 kp (by simp [hkp])
@[simp] theorem rvTarget_len (x:LTarget):(f9 x).cells.length=3:=rfl
@[simp] theorem rvPeer_len (x:LPeer):(A6 x).cells.length=6:=rfl
def M4 (x:LGroup):RV:=.agg [tx x.name,num x.age,.list 3 (x.targets.map f9)]
@[simp] theorem rvGroup_len (x:LGroup):(M4 x).cells.length=3:=rfl
def l7 (x:LRule):RV:=.agg [tx x.name,.list 1 (x.words.map tx)]
@[simp] theorem rvRule_len (x:LRule):(l7 x).cells.length=2:=rfl
def x5 (x:LPolicy):RV:=.agg [tx x.reportTo,.list 1 (x.uris.map tx),.list 2 (x.rules.map l7)]
@[simp] theorem rvPolicy_len (x:LPolicy):(x5 x).cells.length=3:=rfl
def c0t (x:LViolation):RV:=.agg [tx x.document,tx x.referrer,tx x.blocked,tx x.source,tx x.directive,tx x.sample,num x.line,num x.column,.bool x.redirected]
@[simp] theorem c9d (x:LViolation):(c0t x).cells.length=9:=rfl
def i8 (x:LReport):RV:=.agg [num x.id,num x.born,num x.tries,tx x.body]
@[simp] theorem rvReport_len (x:LReport):(i8 x).cells.length=4:=rfl
def L5 (x:LQueue):RV:=.agg [.list 4 (x.items.map i8),.list 1 (x.recent.map tx)]
@[simp] theorem rvQueue_len (x:LQueue):(L5 x).cells.length=2:=rfl
def j6 (x:LChannel):RV:=.agg [tx x.group.name,num x.group.age,.list 3 (x.group.targets.map f9),.list 6 (x.peers.map A6),.list 4 (x.queue.items.map i8),.list 1 (x.queue.recent.map tx)]
@[simp] theorem rvChannel_len (x:LChannel):(j6 x).cells.length=6:=rfl
def G5 (x:LEntry):RV:=.agg [num x.kind,num x.id,num x.at_]
@[simp] theorem rvEntry_len (x:LEntry):(G5 x).cells.length=3:=rfl
def I0 (x:LWire):RV:=.agg [num x.at_,num x.status,tx x.group,tx x.url,.list 1 (x.ids.map num),tx x.body,.bool x.lost]
@[simp] theorem rvWire_len (x:LWire):(I0 x).cells.length=7:=rfl
def L8 (x:LPipe):RV:=.agg [.list 6 (x.channels.map j6),tx x.policy.reportTo,.list 1 (x.policy.uris.map tx),.list 2 (x.policy.rules.map l7),num x.now,num x.next,.list 3 (x.log.map G5),.list 7 (x.wires.map I0)]
@[simp] theorem rvPipe_len (x:LPipe):(L8 x).cells.length=8:=rfl
def rvEvent (x:LEvent):RV:=.agg [num x.kind,num x.draw,num x.status,num x.ticks,tx x.text,tx x.name,tx x.violation.document,tx x.violation.referrer,tx x.violation.blocked,tx x.violation.source,tx x.violation.directive,tx x.violation.sample,num x.violation.line,num x.violation.column,.bool x.violation.redirected,.bool x.lost]
@[simp] theorem rvEvent_len (x:LEvent):(rvEvent x).cells.length=16:=rfl
def c9r (x:LParcel):RV:=.agg [num x.id,num x.age,tx x.body]
@[simp] theorem rvParcel_len (x:LParcel):(c9r x).cells.length=3:=rfl
def rvBox (x:LBox):RV:=.agg [.list 1 (x.ids.map num),.list 1 (x.times.map num),.list 1 (x.bodies.map tx)]
@[simp] theorem rvBox_len (x:LBox):(rvBox x).cells.length=3:=rfl
end Go.PW
end
section
namespace Go.KP
inductive LJson where
 | mk (kind num:Int) (text:Tx) (names:List Tx) (items:List LJson)
def LJson.kind:LJson→Int | .mk k _ _ _ _=>k
def LJson.num:LJson→Int | .mk _ n _ _ _=>n
def LJson.text:LJson→Tx | .mk _ _ t _ _=>t
def LJson.names:LJson→List Tx | .mk _ _ _ ns _=>ns
def LJson.items:LJson→List LJson | .mk _ _ _ _ is=>is
end Go.KP
end
section
namespace Go.KP
theorem url100 {u:LUrl} (h:R6 u=true):(X6 u).length≤100:=by
 unfold R6 at h
 simp only [Bool.and_eq_true,decide_eq_true_eq] at h
 exact h.1.2
structure VOK (v:LViolation):Prop where
 d:v.document.length≤100
 r:v.referrer.length≤100
 b:v.blocked.length≤100
 s:v.source.length≤100
 n:a1y v.directive=true
 nl:v.directive.length≤24
 m:v.sample.length≤200
 l:0≤v.line∧v.line≤9999
 c:0≤v.column∧v.column≤9999
end Go.KP
end
section
namespace Go.KP
theorem b30 {x:LTarget} (h:P6 x=true):x.url.length≤100∧(1≤x.prio∧x.prio≤9)∧(1≤x.weight∧x.weight≤9):=by
 unfold P6 at h
 simp only [Bool.and_eq_true,decide_eq_true_eq] at h
 obtain ⟨⟨⟨⟨⟨h1,_⟩,_⟩,h4⟩,h5⟩,h6⟩:=h
 have:=url100 (a6p h1)
 rw [h4] at this
 exact ⟨this,h5,h6⟩
end Go.KP
end
section
namespace Go.KP
end Go.KP
end
section
namespace Go.KP
def a1g (k:Nat):LReport:=⟨(k:Nat),(k+1:Nat),(k+2:Nat),lmk (k+3)⟩
def a3i (k:Nat):LEntry:=⟨(k:Nat),(k+1:Nat),(k+2:Nat)⟩
def b1e (k:Nat):Int:=(k:Nat)
def T5 (c:LChannel):Nat:=2+3*c.group.targets.length+6*c.peers.length+4*c.queue.items.length+c.queue.recent.length
def Z6 (r:LRule):Nat:=1+r.words.length
def a0z (w:LWire):Nat:=6+w.ids.length
theorem b10 {α:Type} (z:α→Nat) (l:List α):l.length≤zS z l:=Nat.le_add_right _ _
theorem b7s (c:LChannel):T5 c≤2+6*L9 c:=by
 have h1:=b10 S6 c.group.targets
 have h2:=b10 Z9 c.peers
 have h3:=b10 S0 c.queue.items
 have h4:=b10 List.length c.queue.recent
 unfold T5 L9 a3y a95
 omega
theorem c5k (r:LRule):Z6 r≤1+6*a0g r:=by
 have h1:=b10 List.length r.words
 unfold Z6 a0g
 omega
theorem c5j (w:LWire):a0z w≤6+6*a0f w:=by
 unfold a0z a0f
 omega
theorem b5q {α:Type} (c z:α→Nat) (h:∀ x,c x≤6+6*z x) (l:List α):G8 c l≤6*zS z l:=by
 have:G8 c l≤6*(l.length+G8 z l):=by
  induction l with
  | nil=>simp [G8]
  | cons x l ih=>simp only [G8,List.map_cons,List.sum_cons,List.length_cons] at *;have:=h x;omega
 exact this
def a7g (p:LPipe):Nat:=G8 T5 p.channels+p.policy.uris.length+G8 Z6 p.policy.rules+3*p.log.length+G8 a0z p.wires
theorem c5l (p:LPipe):a7g p≤6*b4k p:=by
 have h1:=b5q T5 L9 (fun x=>by have:=b7s x;omega) p.channels
 have h2:=b5q Z6 a0g (fun x=>by have:=c5k x;omega) p.policy.rules
 have h3:=b5q a0z a0f (fun x=>by have:=c5j x;omega) p.wires
 have h4:=b10 List.length p.policy.uris
 unfold a7g b4k a17
 omega
end Go.KP
end
section
namespace Go.KP
def a0b (l:List LReport):List Int:=l.map fun r=>r.id
end Go.KP
end
section
namespace Go.KP
def a1x (l:List Int):Tx:=l.flatMap fun n=>32 :: a0y n
def a03 (x:LPeer):Tx:=
 [112,101,101,114,32]++x.target.url++[32,112,114,105,111,114,105,116,121,32]++a0y x.target.prio++[32,119,101,105,103,104,116,32]++a0y x.target.weight ++
  (if x.gone then [32,103,111,110,101] else if 0 < x.fails then [32,102,97,105,108,115,32]++a0y x.fails++[32,117,110,116,105,108,32]++a0y x.retry else [])
def a0e (c:LChannel):Tx:=
 [99,104,97,110,110,101,108,32]++c.group.name++[32,97,103,101,32]++a0y c.group.age++[32,119,97,105,116,115]++a1x (c.queue.items.map fun r=>r.id)
def W4 (cs:List LChannel):List Tx:=cs.flatMap fun c=>a0e c :: c.peers.map a03
theorem b3f (l:List Int) (i:Nat) (h:i < l.length):a1x (l.take (i+1))=a1x (l.take i)++32 :: a0y l[i]:=by
 unfold a1x
 rw [List.take_add_one,List.getElem?_eq_getElem h,List.flatMap_append];simp
theorem b1o (cs:List LChannel) (i:Nat) (h:i < cs.length):W4 (cs.take (i+1))=W4 (cs.take i)++a0e cs[i] :: cs[i].peers.map a03:=by
 unfold W4
 rw [List.take_add_one,List.getElem?_eq_getElem h,List.flatMap_append];simp
theorem a8c (cs:List LChannel) (h:∀ c∈cs,c.peers.length≤9):(W4 cs).length≤10*cs.length:=by
 induction cs with
 | nil=>simp [W4]
 | cons c cs ih=>
  have h1:=ih fun d hd=>h d (List.mem_cons_of_mem _ hd)
  have h2:=h c (List.mem_cons_self ..)
  have e:W4 (c :: cs)=(a0e c :: c.peers.map a03)++W4 cs:=by simp [W4]
  rw [e]
  simp only [List.length_append,List.length_cons,List.length_map]
  omega
end Go.KP
end
