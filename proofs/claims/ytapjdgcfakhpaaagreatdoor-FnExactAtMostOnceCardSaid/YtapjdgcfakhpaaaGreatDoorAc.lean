/- Ac: merged out of KPa, KPb, KPc, KPd, KPe, KPf, KPg, KPh, KPi, KPj, KPk, KPl, KPm, KPn, KQa, KRa, KLa, KRb, KRc, KPt, KPu. -/
import Derived.Test.YtapjdgcfakhpaaaGreatDoorPWv
set_option linter.unusedSectionVars false
set_option linter.unusedSimpArgs false
set_option linter.unusedVariables false
section
namespace Go.KP
abbrev Tx:=List UInt8
def O4 (c:UInt8):Bool:=decide (97≤c.toNat∧c.toNat≤122)
def O0 (c:UInt8):Bool:=decide (48≤c.toNat∧c.toNat≤57)
def b7u (c:UInt8):UInt8:=if 65≤c.toNat∧c.toNat≤90 then c+32 else c
def R7 (t:Tx):Tx:=t.map b7u
def L3 (t:Tx) (c:UInt8):Nat:=t.findIdx (· == c)
def Y0 (t wo:Tx):Bool:=t.all fun c=>decide (33≤c.toNat∧c.toNat≤126) && !decide (c∈wo)
def a5u:Tx:=[104,116,116,112]
def a7w:Tx:=[104,116,116,112,115]
def a0f (s:Tx):Bool:=s == a5u || s == a7w
def X0 (c:UInt8):Bool:=O4 c || O0 c || decide (c.toNat=45∨c.toNat=43∨c.toNat=46)
def a3r (t:Tx):Bool:=(t.take 1).all O4 && t.all X0
def W4 (t:Tx):Bool:=decide (1≤t.length∧t.length≤12) && a3r t
def U8:Bool→Tx→Bool
 | last,[]=>!last
 | last,c :: r=>if !(O4 c || O0 c) && (last || !decide (c.toNat=45∨c.toNat=46)) then false else U8 (!(O4 c || O0 c)) r
def a1s (t:Tx):Bool:=U8 true t
def a0h (s:Tx):Int:=if s=a5u then 80 else 443
def a2i (n:Nat):Tx:=if h:n < 10 then [UInt8.ofNat (48+n)] else a2i (n / 10)++[UInt8.ofNat (48+n % 10)]
termination_by n
decreasing_by omega
theorem b7z (t:Tx) (c:UInt8) (i:Nat) (hi:i≤t.length) (h:∀ k,k < i→t.getD k 0≠c) (h':i=t.length∨t.getD i 0=c):L3 t c=i:=by
 unfold L3
 by_cases hl:i < t.length
 · rw [List.findIdx_eq hl]
   refine ⟨?_,fun j hj=>?_⟩
   · rcases h' with h' | h'
     · omega
     · simpa [List.getD_eq_getElem?_getD,List.getElem?_eq_getElem hl] using h'
   · have:=h j hj
     have hjl:j < t.length:=by omega
     simpa [List.getD_eq_getElem?_getD,List.getElem?_eq_getElem hjl] using this
 · have e:i=t.length:=by omega
   subst e
   rw [List.findIdx_eq_length]
   intro x hx
   obtain ⟨j,hj,rfl⟩:=List.getElem_of_mem hx
   have:=h j hj
   simpa [List.getD_eq_getElem?_getD,List.getElem?_eq_getElem hj] using this
theorem a0w (t:Tx) (c:UInt8):L3 t c≤t.length:=List.findIdx_le_length
theorem W7 {t:Tx} {c:UInt8}:L3 t c < t.length↔c∈t:=by
 unfold L3
 rw [List.findIdx_lt_length]
 constructor
 · rintro ⟨x,hx,h⟩;have:x=c:=by simpa using h
   exact this ▸ hx
 · intro h;exact ⟨c,h,by simp⟩
theorem a3y {α:Type} (t:List α) (i:Nat) (d:α) (h:i < t.length):t.getD i d=t[i]:=by simp [List.getD_eq_getElem?_getD,List.getElem?_eq_getElem h]
theorem b4d {α:Type} (t:List α) (i:Nat) (d:α) (h:i < t.length):t.take (i+1)=t.take i++[t.getD i d]:=by
 rw [List.take_add_one,List.getElem?_eq_getElem h,a3y t i d h];rfl
theorem a1h {n:Nat} (h:n < 10):a2i n=[UInt8.ofNat (48+n)]:=by rw [a2i];simp [h]
theorem a3x {n:Nat} (h:¬ n < 10):a2i n=a2i (n / 10)++[UInt8.ofNat (48+n % 10)]:=by rw [a2i];simp [h]
theorem c6j (n:Nat):(a2i n).length≤n+1:=by
 induction n using Nat.strongRecOn with
 | ind n ih=>
  by_cases h:n < 10
  · rw [a1h h];simp
  · rw [a3x h]
    have:=ih (n / 10) (by omega)
    simp;omega
theorem a35:∀ (k n:Nat),n < 10 ^ (k+1)→(a2i n).length≤k+1
 | 0,n,h=>by rw [a1h (by simpa using h)];simp
 | k+1,n,h=>by
  by_cases hn:n < 10
  · rw [a1h hn];simp
  · rw [a3x hn]
    have:=a35 k (n / 10) (by rw [Nat.div_lt_iff_lt_mul (by omega)];rw [Nat.pow_succ] at h;exact h)
    simp;omega
def a44 (n:Int):Tx:=if n < 0 then 45 :: a2i (-n).toNat else a2i n.toNat
def V7 (t:Tx):Nat:=t.foldl (fun n c=>n*10+(c.toNat - 48)) 0
def a26 (neg:Bool) (t:Tx):Bool:=decide (t.length=0∨18 < t.length) || (decide ((t.getD 0 0).toNat=48) && (decide (1 < t.length) || neg))
def a1r (neg:Bool) (t:Tx):Option Int:=if a26 neg t then none else if t.all O0 then some (if neg then - (V7 t:Int) else (V7 t:Int)) else none
def X3 (t:Tx):Option Int:=match t with
 | []=>none
 | c :: r=>if c=45 then a1r true r else a1r false (c :: r)
theorem a68 (t:Tx) (c:UInt8):V7 (t++[c])=V7 t*10+(c.toNat - 48):=by simp [V7]
theorem b1j (t:Tx) (h:t.all O0=true):V7 t < 10 ^ t.length:=by
 have key:∀ (k:Nat) (t:Tx),t.length=k→t.all O0=true→V7 t < 10 ^ t.length:=by
  intro k
  induction k with
  | zero=>intro t ht _;have:t=[]:=List.eq_nil_of_length_eq_zero ht;subst this;decide
  | succ k ih=>
   intro t ht ha
   obtain ⟨r,c,rfl⟩:∃ r c,t=r++[c]:=⟨t.dropLast,t.getLast (by intro e;subst e;simp at ht),(List.dropLast_concat_getLast _).symm⟩
   simp only [List.all_append,Bool.and_eq_true] at ha
   have h1:=ih r (by simpa using ht) ha.1
   have h2:O0 c=true:=by simpa using ha.2
   simp [O0] at h2
   rw [a68]
   simp only [List.length_append,List.length_singleton,Nat.pow_succ]
   omega
 exact key t.length t rfl h
theorem S0 {α:Type} (t:List α) (p:α→Bool) (i:Nat) (h:i < t.length):(t.take (i+1)).all p=((t.take i).all p && p t[i]):=by
 rw [List.take_add_one,List.getElem?_eq_getElem h,List.all_append];simp
theorem b0j (t:Tx) (i:Nat) (h:i < t.length):a3r (t.take (i+1))=(a3r (t.take i) && (if i=0 then O4 t[i] else X0 t[i])):=by
 unfold a3r
 rw [S0 t _ i h]
 by_cases hi:i=0
 · subst hi
   have:(t.take (0+1)).take 1=[t[0]]:=by
    cases t with
    | nil=>simp at h
    | cons c r=>simp
   rw [this]
   simp [X0]
   cases O4 t[0]<;>simp
 · have e1:(t.take (i+1)).take 1=t.take 1:=by rw [List.take_take,Nat.min_eq_left (by omega)]
   have e2:(t.take i).take 1=t.take 1:=by rw [List.take_take,Nat.min_eq_left (by omega)]
   rw [e1,e2]
   simp [hi,Bool.and_assoc]
theorem a8o (t:Tx) (i:Nat) (h:i < t.length) (hb:(if i=0 then O4 t[i] else X0 t[i])=false):a3r t=false:=by
 unfold a3r
 by_cases hi:i=0
 · subst hi
   rw [if_pos rfl] at hb
   cases t with
   | nil=>simp at h
   | cons c r=>simp at hb;simp [hb]
 · rw [if_neg hi] at hb
   have:t.all X0=false:=by rw [List.all_eq_false];exact ⟨t[i],List.getElem_mem h,by simp [hb]⟩
   simp [this]
structure LUrl where
 scheme:Tx
 user:Tx
 host:Tx
 port:Int
 path:Tx
 query:Tx
 frag:Tx
 hasQ:Bool
 hasF:Bool
def LUrl.Small (u:LUrl):Prop:=u.scheme.length < 1099511627776∧u.user.length < 1099511627776∧u.host.length < 1099511627776∧u.path.length < 1099511627776∧u.query.length < 1099511627776∧u.frag.length < 1099511627776∧u.port≤9223372036854775807
def a1u (p:Int):Tx:=if 0 < p then 58 :: a2i p.toNat else []
theorem b9u (p:Int) (h:p≤9223372036854775807):(a1u p).length≤20:=by
 unfold a1u
 split
 · have:=a35 18 p.toNat (by omega)
   simp;omega
 · simp
def c2c (u:LUrl):Tx:=u.scheme++[58,47,47]++u.host++a1u u.port
def X9 (u:LUrl):Tx:=
 if a0f u.scheme then
  u.scheme++[58,47,47]++(if u.user=[] then [] else u.user++[64])++(u.host++a1u u.port++u.path)++(if u.hasQ then 63 :: u.query else [])++(if u.hasF then 35 :: u.frag else [])
 else u.scheme++[58]++u.path
def S2 (u:LUrl):Bool:=
 W4 u.scheme && (u.hasQ || decide (u.query=[])) && (u.hasF || decide (u.frag=[])) && Y0 u.path [63,35] && Y0 u.query [35] && Y0 u.frag [] && decide ((X9 u).length≤100) &&
 (if a0f u.scheme then Y0 u.user [47,63,35,64] && a1s u.host && decide (0≤u.port∧u.port≤65535) && decide (u.port≠a0h u.scheme) && decide (0 < u.path.length) && decide ((u.path.getD 0 0).toNat=47)
  else decide (u.user=[]) && decide (u.host=[]) && decide (u.port=0) && !u.hasQ && !u.hasF)
end Go.KP
end
section
namespace Go.KP
def l0 (t:Tx) (c:UInt8):Tx:=t.take (L3 t c)
def C1 (t:Tx) (c:UInt8):Tx:=t.drop (L3 t c+1)
theorem a07 {t:Tx} {c:UInt8} (h:c∉t):l0 t c=t:=by
 unfold l0
 have h1:=a0w t c
 have h2:¬ L3 t c < t.length:=fun h'=>h (W7.1 h')
 rw [show L3 t c=t.length by omega,List.take_length]
theorem a70 {t:Tx} {c:UInt8} (h:c∉t):C1 t c=[]:=by
 unfold C1
 have h2:¬ L3 t c < t.length:=fun h'=>h (W7.1 h')
 exact List.drop_eq_nil_of_le (by omega)
theorem R9 (t:Tx) (c:UInt8):(l0 t c).length≤t.length:=by unfold l0;simp;omega
theorem Z0 (t:Tx) (c:UInt8):(C1 t c).length≤t.length:=by unfold C1;simp
def LUrl.zero:LUrl:=⟨[],[],[],0,[],[],[],false,false⟩
def a1y (sc r:Tx):Option Int:=
 if 58∈r then
  match X3 (C1 r 58) with
  | some n=>if 1≤n∧n≤65535 then some (if n=a0h sc then 0 else n) else none
  | none=>none
 else some 0
def a4k (sc r0:Tx):LUrl×Bool:=
 let r1:=l0 r0 35
 let r2:=l0 r1 63
 let r3:=l0 r2 47
 let r4:=if 64∈r3 then C1 r3 64 else r3
 match a1y sc r4 with
 | none=>(LUrl.zero,false)
 | some p=>
  let u:LUrl:=⟨sc,if 64∈r3 then l0 r3 64 else [],R7 (l0 r4 58),p,if 47∈r2 then r2.drop (L3 r2 47) else [47],C1 r1 63,C1 r0 35,decide (63∈r1),decide (35∈r0)⟩
  (u,S2 u)
def C4 (t:Tx):LUrl×Bool:=
 if 58∈t then
  let sc:=R7 (l0 t 58)
  let rest:=C1 t 58
  if a0f sc then
   if rest.take 2=[47,47] then a4k sc (rest.drop 2) else (LUrl.zero,false)
  else
   let u:LUrl:=⟨sc,[],[],0,l0 (l0 rest 35) 63,[],[],false,false⟩
   (u,S2 u)
 else (LUrl.zero,false)
structure LTarget where
 url:Tx
 prio:Int
 weight:Int
 deriving DecidableEq
structure LPeer where
 target:LTarget
 fails:Int
 retry:Int
 gone:Bool
 deriving DecidableEq
def P3 (x:LTarget):Bool:=
 (C4 x.url).2 && a0f (C4 x.url).1.scheme && !(C4 x.url).1.hasF && decide (X9 (C4 x.url).1=x.url) && decide (1≤x.prio∧x.prio≤9) && decide (1≤x.weight∧x.weight≤9)
def a3w (x:LPeer):Bool:=
 P3 x.target && decide (0≤x.fails∧x.fails≤1000000) && decide (0≤x.retry∧x.retry≤1000032) && !(decide (x.fails=0) && decide (x.retry≠0))
def U2:List Tx→List LPeer→Bool
 | _,[]=>true
 | seen,p :: r=>decide (p.target.url∉seen) && U2 (seen++[p.target.url]) r
def Z5 (l:List LPeer):Bool:=decide (l.length≤4) && l.all a3w && U2 [] l
end Go.KP
end
section
namespace Go.KP
def U4 (t:Tx):Bool:=t.all fun c=>decide (33≤c.toNat∧c.toNat≤126)
def R8 (t wo:Tx):Bool:=t.any fun c=>decide (c∈wo)
theorem c6g (t wo:Tx):Y0 t wo=(U4 t && !R8 t wo):=by
 unfold Y0 U4 R8
 induction t with
 | nil=>rfl
 | cons c r ih=>
  simp only [List.all_cons,List.any_cons,ih]
  cases decide (33≤c.toNat∧c.toNat≤126)<;>cases decide (c∈wo)<;>simp
theorem c3r (t:Tx):Y0 t []=U4 t:=by simp [Y0,U4]
theorem a7j (a b:Tx):U4 (a++b)=(U4 a && U4 b):=by simp [U4]
theorem a5v:∀ (t:Tx) (last:Bool),U8 last t=true→U4 t=true
 | [],_,_=>rfl
 | c :: r,last,h=>by
  simp only [U8] at h
  split at h
  · cases h
  · rename_i hc
    have ih:=a5v r _ h
    have hh:U4 (c :: r)=(decide (33≤c.toNat∧c.toNat≤126) && U4 r):=rfl
    rw [hh,ih]
    simp [O4,O0] at hc ⊢
    omega
theorem b7x {t:Tx} (h:a1s t=true):U4 t=true:=a5v t _ h
def a2r (p:Int):Tx:=if p=0 then [] else 58 :: a44 p
def a2q (u:LUrl):Tx:=
 if a0f u.scheme then
  u.scheme++[58,47,47]++(if u.user=[] then [] else u.user++[64])++u.host++a2r u.port++u.path++(if u.hasQ then 63 :: u.query else [])++(if u.hasF then 35 :: u.frag else [])
 else u.scheme++[58]++u.path
theorem a6g {u:LUrl} (h:0≤u.port):a2q u=X9 u:=by
 unfold a2q X9
 split
 · have:a2r u.port=a1u u.port:=by
    unfold a2r a1u a44
    by_cases h0:u.port=0
    · simp [h0]
    · have g1:0 < u.port:=by omega
      have g2:¬ u.port < 0:=by omega
      simp only [h0,g1,g2,if_true,if_false]
   rw [this];simp
 · rfl
def a9y (u:LUrl):Bool:=
 W4 u.scheme && decide (u.user.length+u.host.length+u.path.length+u.query.length+u.frag.length≤100) && decide ((a2q u).length≤100) && U4 (u.user++u.host++u.path++u.query++u.frag) && !R8 u.path [63,35] &&
 (if a0f u.scheme then !R8 u.user [47,63,35,64] && a1s u.host && decide (0≤u.port∧u.port≤65535) && decide (u.port≠a0h u.scheme) && decide (0 < u.path.length) && decide ((u.path.getD 0 0).toNat=47) && !R8 u.query [35] && (u.hasQ || decide (u.query=[])) && (u.hasF || decide (u.frag=[]))
  else decide (u.user=[]) && decide (u.host=[]) && decide (u.port=0) && decide (u.query=[]) && decide (u.frag=[]) && !u.hasQ && !u.hasF)
theorem c3x (u:LUrl):a9y u=S2 u:=by
 by_cases hp:0≤u.port
 · unfold a9y S2
   rw [a6g hp]
   simp only [c6g,c3r,a7j]
   by_cases hw:a0f u.scheme=true
   · rw [if_pos hw,if_pos hw]
     rw [Bool.eq_iff_iff]
     have hl:(X9 u).length=u.scheme.length+3+(if u.user=[] then 0 else u.user.length+1)+(u.host.length+(a1u u.port).length+u.path.length)+(if u.hasQ then u.query.length+1 else 0)+(if u.hasF then u.frag.length+1 else 0):=by
      unfold X9
      rw [if_pos hw]
      simp only [List.length_append]
      congr 1
      · congr 1
        · congr 1
          congr 1
          split<;>simp
        · split<;>simp
      · split<;>simp
     constructor
     · intro h
       simp only [Bool.and_eq_true,Bool.or_eq_true,decide_eq_true_eq,Bool.not_eq_true'] at h ⊢
       obtain ⟨⟨⟨⟨⟨h1,h2⟩,h3⟩,h4⟩,h5⟩,h6⟩:=h
       obtain ⟨⟨⟨⟨⟨⟨⟨⟨a1,a2⟩,a3⟩,a4⟩,a5⟩,a6⟩,a7⟩,a8⟩,a9⟩:=h6
       obtain ⟨⟨⟨⟨b1,b2⟩,b3⟩,b4⟩,b5⟩:=h4
       exact ⟨⟨⟨⟨⟨⟨⟨h1,a8⟩,a9⟩,b3,h5⟩,b4,a7⟩,b5,by simp [R8]⟩,h3⟩,⟨⟨⟨⟨⟨b1,a1⟩,a2⟩,a3⟩,a4⟩,a5⟩,a6⟩
     · intro h
       simp only [Bool.and_eq_true,Bool.or_eq_true,decide_eq_true_eq,Bool.not_eq_true'] at h ⊢
       obtain ⟨⟨⟨⟨⟨⟨⟨c1,c2⟩,c3⟩,c4⟩,c5⟩,c6⟩,c7⟩,c8⟩:=h
       obtain ⟨⟨⟨⟨⟨d1,d2⟩,d3⟩,d4⟩,d5⟩,d6⟩:=c8
       have e:=b7x d2
       refine ⟨⟨⟨⟨⟨c1,?_⟩,c7⟩,?_⟩,c4.2⟩,⟨⟨⟨⟨⟨⟨⟨⟨d1.2,d2⟩,d3⟩,d4⟩,d5⟩,d6⟩,c5.2⟩,c2⟩,c3⟩⟩
       · have q1:u.query.length≤(if u.hasQ then u.query.length+1 else 0):=by
          rcases c2 with h | h
          · rw [h];simp
          · rw [h];simp
         have q2:u.frag.length≤(if u.hasF then u.frag.length+1 else 0):=by
          rcases c3 with h | h
          · rw [h];simp
          · rw [h];simp
         have q3:u.user.length≤(if u.user=[] then 0 else u.user.length+1):=by
          split
          · rename_i h;rw [h];simp
          · omega
         omega
       · exact ⟨⟨⟨⟨d1.1,e⟩,c4.1⟩,c5.1⟩,c6.1⟩
   · rw [if_neg hw,if_neg hw]
     rw [Bool.eq_iff_iff]
     have hl:(X9 u).length=u.scheme.length+1+u.path.length:=by
      unfold X9
      rw [if_neg hw]
      simp;omega
     constructor
     · intro h
       simp only [Bool.and_eq_true,Bool.or_eq_true,decide_eq_true_eq,Bool.not_eq_true'] at h ⊢
       obtain ⟨⟨⟨⟨⟨h1,h2⟩,h3⟩,h4⟩,h5⟩,⟨⟨⟨⟨⟨⟨a1,a2⟩,a3⟩,a4⟩,a5⟩,a6⟩,a7⟩⟩:=h
       obtain ⟨⟨⟨⟨b1,b2⟩,b3⟩,b4⟩,b5⟩:=h4
       have e:R8 u.frag []=false:=by simp [R8]
       have e2:R8 u.query [35]=false:=by rw [a4];rfl
       refine ⟨⟨⟨⟨⟨⟨⟨h1,.inr a4⟩,.inr a5⟩,b3,h5⟩,b4,e2⟩,b5,by simp [R8]⟩,h3⟩,⟨⟨⟨⟨a1,a2⟩,a3⟩,a6⟩,a7⟩⟩
     · intro h
       simp only [Bool.and_eq_true,Bool.or_eq_true,decide_eq_true_eq,Bool.not_eq_true'] at h ⊢
       obtain ⟨⟨⟨⟨⟨⟨⟨c1,c2⟩,c3⟩,c4⟩,c5⟩,c6⟩,c7⟩,⟨⟨⟨⟨d1,d2⟩,d3⟩,d4⟩,d5⟩⟩:=h
       have q:u.query=[]:=by rcases c2 with h | h;(rw [d4] at h;cases h);exact h
       have f:u.frag=[]:=by rcases c3 with h | h;(rw [d5] at h;cases h);exact h
       refine ⟨⟨⟨⟨⟨c1,?_⟩,c7⟩,?_⟩,c4.2⟩,⟨⟨⟨⟨⟨⟨d1,d2⟩,d3⟩,q⟩,f⟩,d4⟩,d5⟩⟩
       · simp [d1,d2,q,f];omega
       · refine ⟨⟨⟨⟨?_,?_⟩,c4.1⟩,c5.1⟩,c6.1⟩<;>simp [d1,d2,U4]
 · have e1:a9y u=false:=by
    unfold a9y
    have h1:decide (0≤u.port∧u.port≤65535)=false:=by simp;omega
    have h2:decide (u.port=0)=false:=by simp;omega
    simp [h1,h2]
   have e2:S2 u=false:=by
    unfold S2
    have h1:decide (0≤u.port∧u.port≤65535)=false:=by simp;omega
    have h2:decide (u.port=0)=false:=by simp;omega
    simp [h1,h2]
   rw [e1,e2]
end Go.KP
end
section
namespace Go.KP
theorem a69 {t:Tx} (h:(C4 t).2=true):S2 (C4 t).1=true:=by
 unfold C4 a4k at h ⊢
 split at h
 · rename_i h1
   rw [if_pos h1]
   dsimp only at h ⊢
   split at h
   · rename_i h2
     rw [if_pos h2]
     split at h
     · rename_i h3
       rw [if_pos h3]
       split at h
       · cases h
       · exact h
     · cases h
   · rename_i h2
     rw [if_neg h2]
     exact h
 · cases h
theorem a6f {u:LUrl} (h:S2 u=true):0≤u.port:=by
 unfold S2 at h
 simp only [Bool.and_eq_true] at h
 obtain ⟨_,h⟩:=h
 split at h
 · simp only [Bool.and_eq_true,decide_eq_true_eq] at h
   exact h.1.1.1.2.1
 · simp only [Bool.and_eq_true,decide_eq_true_eq] at h
   omega
theorem b0p {u:LUrl} (h:S2 u=true) (hf:u.hasF=false):u.frag=[]:=by
 unfold S2 at h
 simp only [Bool.and_eq_true,Bool.or_eq_true,decide_eq_true_eq,hf] at h
 rcases h.1.1.1.1.1.2 with h | h
 · cases h
 · exact h
theorem b2g {u:LUrl} (h:S2 u=true):(X9 u).length≤100:=by
 unfold S2 at h
 simp only [Bool.and_eq_true,decide_eq_true_eq] at h
 exact h.1.2
theorem c3w {t:Tx} {c x:UInt8} (h:x∈C1 t c):x∈t:=List.mem_of_mem_drop h
theorem b7s {t:Tx} (h:(C4 t).1.hasF=true):35∈t:=by
 unfold C4 a4k at h
 split at h
 · dsimp only at h
   split at h
   · split at h
     · split at h
       · cases h
       · simp only [decide_eq_true_eq] at h
         exact c3w (List.mem_of_mem_drop h)
     · cases h
   · cases h
 · cases h
theorem a86:∀ (n:Nat),(a2i n).all O0=true:=by
 intro n
 induction n using Nat.strongRecOn with
 | ind n ih=>
  by_cases h:n < 10
  · rw [a1h h]
    simp [O0]
    omega
  · rw [a3x h,List.all_append,ih (n / 10) (by omega)]
    simp [O0]
    omega
theorem a9u {t wo:Tx} {c:UInt8} (h:Y0 t wo=true) (hc:c∈wo):c∉t:=by
 intro hm
 unfold Y0 at h
 rw [List.all_eq_true] at h
 have:=h c hm
 simp [hc] at this
theorem b0s:∀ (t:Tx) (last:Bool),U8 last t=true→35∉t
 | [],_,_=>by simp
 | c :: r,last,h=>by
  simp only [U8] at h
  split at h
  · cases h
  · rename_i hc
    have ih:=b0s r _ h
    intro hm
    rcases List.mem_cons.1 hm with e | e
    · subst e;apply hc;simp [O4,O0]
    · exact ih e
theorem b98 {s:Tx} (h:a0f s=true):35∉s:=by
 simp [a0f] at h
 rcases h with h | h<;>subst h<;>decide
def a16 (t:Tx):Option Tx:=
 if t.length≤65536 then
  if (C4 t).2 && a0f (C4 t).1.scheme then some (a2q { (C4 t).1 with frag:=[],hasF:=false }) else none
 else none
theorem c30 (t:Tx):decide (a16 t=some t)=((C4 t).2 && a0f (C4 t).1.scheme && !(C4 t).1.hasF && decide (X9 (C4 t).1=t)):=by
 rw [Bool.eq_iff_iff]
 simp only [decide_eq_true_eq,Bool.and_eq_true,Bool.not_eq_true']
 unfold a16
 constructor
 · intro h
   split at h
   · split at h
     · rename_i h1 h2
       simp only [Bool.and_eq_true] at h2
       simp only [Option.some.injEq] at h
       have hok:=a69 h2.1
       have hp:=a6f hok
       cases hf:(C4 t).1.hasF with
       | true=>
        exfalso
        have h35:=b7s hf
        rw [a6g (by exact hp)] at h
        have hn:35∉X9 { (C4 t).1 with frag:=[],hasF:=false }:=by
         have hok2:=hok
         unfold S2 at hok2
         simp only [Bool.and_eq_true,Bool.or_eq_true,decide_eq_true_eq,h2.2,if_true] at hok2
         obtain ⟨⟨⟨⟨⟨⟨⟨c1,c2⟩,c3⟩,c4⟩,c5⟩,c6⟩,c7⟩,⟨⟨⟨⟨⟨d1,d2⟩,d3⟩,d4⟩,d5⟩,d6⟩⟩:=hok2
         have e1:=a9u (c:=35) c4 (by simp)
         have e2:=a9u (c:=35) c5 (by simp)
         have e3:=a9u (c:=35) d1 (by simp)
         have e4:=b0s _ _ d2
         have e5:=b98 h2.2
         have e6:35∉a2i (C4 t).1.port.toNat:=fun hm=>by
          have:=a86 (C4 t).1.port.toNat
          rw [List.all_eq_true] at this
          have:=this 35 hm
          simp [O0] at this
         unfold X9 a1u
         rw [if_pos h2.2]
         dsimp only
         intro hm
         simp only [List.mem_append] at hm
         rcases hm with (((hm | hm) | hm) | hm) | hm
         · rcases hm with hm | hm
           · exact e5 hm
           · simp at hm
         · split at hm
           · simp at hm
           · simp at hm;exact e3 hm
         · rcases hm with (hm | hm) | hm
           · exact e4 hm
           · split at hm
             · simp at hm;exact e6 hm
             · simp at hm
           · exact e1 hm
         · split at hm
           · simp at hm;exact e2 hm
           · simp at hm
         · simp at hm
        rw [h] at hn
        exact hn h35
       | false=>
        have hfr:=b0p hok hf
        have e:{ (C4 t).1 with frag:=[],hasF:=false }=(C4 t).1:=by
         rw [← hfr,← hf]
        rw [e,a6g hp] at h
        exact ⟨⟨h2,rfl⟩,h⟩
     · cases h
   · cases h
 · rintro ⟨⟨⟨h1,h2⟩,hf⟩,h⟩
   have hok:=a69 h1
   have hfr:=b0p hok hf
   have hl:=b2g hok
   rw [h] at hl
   rw [if_pos (by omega),h1,h2]
   have e:{ (C4 t).1 with frag:=[],hasF:=false }=(C4 t).1:=by
    rw [← hfr,← hf]
   rw [e,a6g (a6f hok),h]
   rfl
theorem b52 (x:LTarget):(decide (a16 x.url=some x.url) && decide (1≤x.prio∧x.prio≤9) && decide (1≤x.weight∧x.weight≤9))=P3 x:=by
 rw [c30];rfl
end Go.KP
end
section
namespace Go.KP
theorem b47 (k:Nat) (h:k < 10):(UInt8.ofNat (48+k)).toNat=48+k:=by
 rw [UInt8.toNat_ofNat'];omega
theorem b4i (n:Nat):V7 (a2i n)=n:=by
 induction n using Nat.strongRecOn with
 | ind n ih=>
  by_cases h:n < 10
  · rw [a1h h]
    have:=b47 n h
    simp only [V7,List.foldl_cons,List.foldl_nil,this];omega
  · rw [a3x h,a68,ih (n / 10) (by omega),b47 _ (by omega)]
    omega
theorem b5v (n:Nat):a2i n≠[]:=by
 by_cases h:n < 10
 · rw [a1h h];simp
 · rw [a3x h];simp
theorem c3v (n:Nat) (h0:n≠0):((a2i n).getD 0 0).toNat≠48:=by
 induction n using Nat.strongRecOn with
 | ind n ih=>
  by_cases h:n < 10
  · rw [a1h h]
    have:=b47 n h
    simp only [List.getD_cons_zero,this];omega
  · rw [a3x h]
    have h1:=ih (n / 10) (by omega) (by omega)
    cases hl:a2i (n / 10) with
    | nil=>exact absurd hl (b5v _)
    | cons c r=>rw [hl] at h1;simpa using h1
theorem b0v {c:UInt8} (h:O0 c=true):UInt8.ofNat (48+(c.toNat - 48))=c:=by
 simp only [O0,decide_eq_true_eq] at h
 apply UInt8.toNat_inj.1
 rw [b47 _ (by omega)];omega
theorem c3u:∀ (k:Nat) (t:Tx),t.length=k→t≠[]→t.all O0=true→((t.getD 0 0).toNat=48→t.length=1)→a2i (V7 t)=t:=by
 intro k
 induction k with
 | zero=>intro t ht h;exact absurd (List.eq_nil_of_length_eq_zero ht) h
 | succ k ih=>
  intro t ht hne ha hz
  obtain ⟨r,c,rfl⟩:∃ r c,t=r++[c]:=⟨t.dropLast,t.getLast hne,(List.dropLast_concat_getLast _).symm⟩
  simp only [List.all_append,Bool.and_eq_true] at ha
  have hc:O0 c=true:=by simpa using ha.2
  have hc':=hc
  simp only [O0,decide_eq_true_eq] at hc'
  rw [a68]
  cases r with
  | nil=>
   rw [show V7 []*10+(c.toNat - 48)=c.toNat - 48 by simp [V7]]
   rw [a1h (by omega),b0v hc];rfl
  | cons d r=>
   have hd:d.toNat≠48:=fun e=>by
    have:=hz (by simpa using e)
    simp at this
   have hi:=ih (d :: r) (by simpa using ht) (by simp) ha.1 (fun e=>absurd (by simpa using e) hd)
   have hpos:V7 (d :: r)≠0:=fun e=>by
    rw [e,a1h (by omega)] at hi
    have h2:UInt8.ofNat 48=d:=by simpa using (List.cons.inj hi).1
    exact hd (by rw [← h2];rfl)
   rw [a3x (by omega)]
   have e1:(V7 (d :: r)*10+(c.toNat - 48)) / 10=V7 (d :: r):=by omega
   have e2:(V7 (d :: r)*10+(c.toNat - 48)) % 10=c.toNat - 48:=by omega
   rw [e1,e2,hi,b0v hc]
def Z3 (t:Tx):Nat:=match t with
 | []=>0
 | c :: r=>if c=45 then r.length else (c :: r).length
theorem b0n (neg:Bool) (n:Nat) (h18:(a2i n).length≤18) (hn:neg=true→n≠0):a26 neg (a2i n)=false:=by
 unfold a26
 have h1:(a2i n).length≠0:=fun e=>b5v n (List.eq_nil_of_length_eq_zero e)
 by_cases h0:n=0
 · subst h0
   cases neg with
   | true=>exact absurd rfl (hn rfl)
   | false=>rw [a1h (by omega)];simp
 · have h2:=c3v n h0
   have e1:decide ((a2i n).length=0∨18 < (a2i n).length)=false:=by simp only [decide_eq_false_iff_not];omega
   have e2:decide (((a2i n).getD 0 0).toNat=48)=false:=by simp only [decide_eq_false_iff_not];exact h2
   rw [e1,e2];rfl
theorem b5t (n:Int) (h:Z3 (a44 n)≤18):X3 (a44 n)=some n:=by
 unfold a44 at h ⊢
 by_cases h0:n < 0
 · rw [if_pos h0] at h ⊢
   have h':(a2i (-n).toNat).length≤18:=by simpa [Z3] using h
   simp only [X3,if_true,a1r]
   rw [b0n true _ h' (fun _=>by omega),if_neg (by simp),if_pos (a86 _),b4i]
   simp;omega
 · rw [if_neg h0] at h ⊢
   cases hl:a2i n.toNat with
   | nil=>exact absurd hl (b5v _)
   | cons c r=>
    have hd:=a86 n.toNat
    rw [hl] at hd h
    have hc:c≠45:=fun e=>by subst e;simp [O0] at hd
    have h':(a2i n.toNat).length≤18:=by rw [hl];simpa [Z3,hc] using h
    simp only [X3,hc,if_false]
    rw [← hl]
    simp only [a1r]
    rw [b0n false _ h' (fun e=>by cases e),if_neg (by simp),if_pos (a86 _),b4i]
    simp;omega
theorem a5k {t:Tx} {n:Int} (h:X3 t=some n):a44 n=t∧Z3 t≤18 ∧
 ∃ u:Tx,u≠[]∧u.all O0=true∧u.length≤18∧((t=45 :: u∧n=-(V7 u:Int))∨(t=u∧n=V7 u)):=by
 have key:∀ (neg:Bool) (u:Tx),a1r neg u=some n→u≠[]∧u.length≤18∧u.all O0=true∧a2i (V7 u)=u∧(neg=true→V7 u≠0)∧n=(if neg then - (V7 u:Int) else (V7 u:Int)):=by
  intro neg u hu
  unfold a1r at hu
  split at hu
  · cases hu
  · rename_i hb
    split at hu
    · rename_i ha
      have hn:=(Option.some.inj hu).symm
      have hb':a26 neg u=false:=by simpa using hb
      unfold a26 at hb'
      rw [Bool.or_eq_false_iff] at hb'
      obtain ⟨q1,q2⟩:=hb'
      rw [decide_eq_false_iff_not] at q1
      have hne:u≠[]:=fun e=>q1 (by rw [e];simp)
      have hz:(u.getD 0 0).toNat=48→u.length=1∧neg=false:=fun e=>by
       rw [Bool.and_eq_false_iff] at q2
       rcases q2 with q2 | q2
       · simp only [decide_eq_false_iff_not] at q2;exact absurd e q2
       · rw [Bool.or_eq_false_iff,decide_eq_false_iff_not] at q2
         have:u.length≠0:=fun e=>hne (List.eq_nil_of_length_eq_zero e)
         exact ⟨by omega,q2.2⟩
      have hl:=c3u u.length u rfl hne ha (fun e=>(hz e).1)
      refine ⟨hne,by omega,ha,hl,fun hneg h0=>?_,hn⟩
      rw [h0,a1h (by omega)] at hl
      have:=(hz (by rw [← hl];rfl)).2
      rw [hneg] at this;cases this
    · cases hu
 unfold X3 at h
 split at h
 · cases h
 · rename_i c r
   split at h
   · rename_i hc
     subst hc
     obtain ⟨h1,h2,h3,h4,h5,h6⟩:=key true r h
     simp only [if_true] at h6
     have h5':=h5 rfl
     refine ⟨?_,by simpa [Z3] using h2,r,h1,h3,h2,.inl ⟨rfl,h6⟩⟩
     unfold a44
     rw [if_pos (by omega),h6]
     rw [show (- -(V7 r:Int)).toNat=V7 r by omega,h4]
   · rename_i hc
     obtain ⟨h1,h2,h3,h4,h5,h6⟩:=key false (c :: r) h
     have h6:n=(V7 (c :: r):Int):=h6
     refine ⟨?_,by simpa [Z3,hc] using h2,c :: r,h1,h3,h2,.inr ⟨rfl,h6⟩⟩
     unfold a44
     rw [if_neg (by omega),h6]
     rw [show ((V7 (c :: r):Int)).toNat=V7 (c :: r) by omega,h4]
end Go.KP
end
section
namespace Go.KP
theorem a84 {t:Tx} (ht:t.length < 1099511627776):(C4 t).1.Small:=by
 have hz:LUrl.zero.Small:=by simp [LUrl.Small,LUrl.zero]
 have hA:∀ (t:Tx) c,(l0 t c).length≤t.length:=R9
 have hB:∀ (t:Tx) c,(C1 t c).length≤t.length:=Z0
 unfold C4
 split
 · have h1:(R7 (l0 t 58)).length≤t.length:=by have:=hA t 58;simpa [R7] using this
   have h2:=hB t 58
   dsimp only
   split
   · split
     · unfold a4k
       dsimp only
       have h3:((C1 t 58).drop 2).length≤t.length:=by simp;omega
       generalize (C1 t 58).drop 2=r0 at h3
       have h4:=hA r0 35
       have h4':=hB r0 35
       generalize l0 r0 35=r1 at h4
       have h5:=hA r1 63
       have h5':=hB r1 63
       generalize l0 r1 63=r2 at h5
       have h6:=hA r2 47
       generalize l0 r2 47=r3 at h6
       have h7:=hA r3 64
       have h7':(if 64∈r3 then C1 r3 64 else r3).length≤r3.length:=by
        split
        · exact hB r3 64
        · omega
       generalize (if 64∈r3 then C1 r3 64 else r3)=r4 at h7'
       have h8:(R7 (l0 r4 58)).length≤r4.length:=by have:=hA r4 58;simpa [R7] using this
       split
       · exact hz
       · rename_i p hp
         refine ⟨by show (R7 _).length < _;omega,?_,by show (R7 _).length < _;omega,?_,by show (C1 r1 63).length < _;omega,by show (C1 r0 35).length < _;omega,?_⟩
         · show (if 64∈r3 then l0 r3 64 else []).length < _
           split
           · omega
           · simp
         · show (if 47∈r2 then r2.drop (L3 r2 47) else [47]).length < _
           split
           · simp;omega
           · simp
         · show p≤_
           unfold a1y at hp
           split at hp
           · split at hp
             · split at hp
               · have:=Option.some.inj hp
                 split at this<;>omega
               · cases hp
             · cases hp
           · have:=Option.some.inj hp;omega
     · exact hz
   · have h3:=hA (C1 t 58) 35
     have h4:=hA (l0 (C1 t 58) 35) 63
     refine ⟨by show (R7 _).length < _;omega,by simp,by simp,by show (l0 _ _).length < _;omega,by simp,by simp,by show (0:Int)≤_;omega⟩
 · exact hz
def LTarget.Small (x:LTarget):Prop:=x.url.length < 1099511627776
theorem a5i (l:List LPeer) (i:Nat) (h:i < l.length):U2 [] (l.take (i+1))=(U2 [] (l.take i) && decide (l[i].target.url∉(l.take i).map fun p=>p.target.url)):=by
 have key:∀ (l:List LPeer) (i:Nat) (seen:List Tx) (h:i < l.length),U2 seen (l.take (i+1))=(U2 seen (l.take i) && decide (l[i].target.url∉seen++(l.take i).map fun p=>p.target.url)):=by
  intro l
  induction l with
  | nil=>intro i seen h;simp at h
  | cons p l ih=>
   intro i seen h
   cases i with
   | zero=>simp [U2]
   | succ i=>
    simp only [List.take_succ_cons,U2,List.getElem_cons_succ,List.map_cons]
    rw [ih i (seen++[p.target.url]) (by simpa using h),Bool.and_assoc]
    congr 2
    simp
 simpa using key l i [] h
theorem a2y (l:List LPeer) (i:Nat) (h:U2 [] (l.take i)=false):U2 [] l=false:=by
 have key:∀ (l:List LPeer) (i:Nat) (seen:List Tx),U2 seen (l.take i)=false→U2 seen l=false:=by
  intro l
  induction l with
  | nil=>intro i seen h;simp [U2] at h
  | cons p l ih=>
   intro i seen h
   cases i with
   | zero=>simp [U2] at h
   | succ i=>
    simp only [List.take_succ_cons,U2] at h ⊢
    cases hd:decide (p.target.url∉seen) with
    | false=>rfl
    | true=>
     rw [hd] at h
     simp only [Bool.true_and] at h ⊢
     exact ih i _ h
 exact key l i [] h
end Go.KP
end
section
namespace Go.KP
def LUrl.Tiny (u:LUrl):Prop:=u.scheme.length < 1048577∧u.user.length < 1048577∧u.host.length < 1048577∧u.path.length < 1048577∧u.query.length < 1048577∧u.frag.length < 1048577∧(0≤u.port∧u.port≤65535)
theorem b7r {t:Tx} (ht:t.length < 1048577):(C4 t).1.Tiny:=by
 have hz:LUrl.zero.Tiny:=by simp [LUrl.Tiny,LUrl.zero]
 have hA:∀ (t:Tx) c,(l0 t c).length≤t.length:=R9
 have hB:∀ (t:Tx) c,(C1 t c).length≤t.length:=Z0
 unfold C4
 split
 · have h1:(R7 (l0 t 58)).length≤t.length:=by have:=hA t 58;simpa [R7] using this
   have h2:=hB t 58
   dsimp only
   split
   · split
     · unfold a4k
       dsimp only
       have h3:((C1 t 58).drop 2).length≤t.length:=by simp;omega
       generalize (C1 t 58).drop 2=r0 at h3
       have h4:=hA r0 35
       have h4':=hB r0 35
       generalize l0 r0 35=r1 at h4
       have h5:=hA r1 63
       have h5':=hB r1 63
       generalize l0 r1 63=r2 at h5
       have h6:=hA r2 47
       generalize l0 r2 47=r3 at h6
       have h7:=hA r3 64
       have h7':(if 64∈r3 then C1 r3 64 else r3).length≤r3.length:=by
        split
        · exact hB r3 64
        · omega
       generalize (if 64∈r3 then C1 r3 64 else r3)=r4 at h7'
       have h8:(R7 (l0 r4 58)).length≤r4.length:=by have:=hA r4 58;simpa [R7] using this
       split
       · exact hz
       · rename_i p hp
         refine ⟨by show (R7 _).length < _;omega,?_,by show (R7 _).length < _;omega,?_,by show (C1 r1 63).length < _;omega,by show (C1 r0 35).length < _;omega,?_⟩
         · show (if 64∈r3 then l0 r3 64 else []).length < _
           split
           · omega
           · simp
         · show (if 47∈r2 then r2.drop (L3 r2 47) else [47]).length < _
           split
           · simp;omega
           · simp
         · show 0≤p∧p≤65535
           unfold a1y at hp
           split at hp
           · split at hp
             · split at hp
               · have:=Option.some.inj hp
                 split at this<;>omega
               · cases hp
             · cases hp
           · have:=Option.some.inj hp;omega
     · exact hz
   · have h3:=hA (C1 t 58) 35
     have h4:=hA (l0 (C1 t 58) 35) 63
     refine ⟨by show (R7 _).length < _;omega,by simp,by simp,by show (l0 _ _).length < _;omega,by simp,by simp,by show (0:Int)≤0∧(0:Int)≤65535;omega⟩
 · exact hz
def Y6 (l:List LTarget):Bool:=U2 [] (l.map fun t=>⟨t,0,0,false⟩)
theorem a8m (l:List LTarget) (i:Nat) (h:i < l.length):Y6 (l.take (i+1))=(Y6 (l.take i) && decide (l[i].url∉(l.take i).map fun t=>t.url)):=by
 have:=a5i (l.map fun t=>(⟨t,0,0,false⟩:LPeer)) i (by simpa using h)
 unfold Y6
 rw [← List.map_take,← List.map_take] at this
 rw [this]
 congr 2
 simp [List.map_map,Function.comp_def]
theorem b3u (l:List LTarget) (i:Nat) (h:Y6 (l.take i)=false):Y6 l=false:=by
 unfold Y6 at h ⊢
 rw [List.map_take] at h
 exact a2y _ i h
theorem a8z:∀ (l l':List LPeer) (seen:List Tx),l.map (fun p=>p.target.url)=l'.map (fun p=>p.target.url)→U2 seen l=U2 seen l'
 | [],[],_,_=>rfl
 | p :: l,p' :: l',seen,h=>by
  simp only [List.map_cons,List.cons.injEq] at h
  simp only [U2,h.1]
  rw [a8z l l' _ h.2]
 | [],_ :: _,_,h=>by simp at h
 | _ :: _,[],_,h=>by simp at h
theorem b3t (l:List LPeer):Y6 (l.map fun p=>p.target)=U2 [] l:=by
 unfold Y6
 exact a8z _ _ _ (by simp [List.map_map,Function.comp_def])
end Go.KP
end
section
namespace Go.KP
def c6e (now:Int) (x:LPeer):Bool:=!x.gone && decide (x.retry≤now)
def chMatch (now b:Int) (x:LPeer):Bool:=c6e now x && decide (x.target.prio=b)
def chSum (now b:Int):List LPeer→Int
 | []=>0
 | x :: l=>(if chMatch now b x then x.target.weight else 0)+chSum now b l
structure ChInv (now:Int) (l:List LPeer) (a:Int×Int):Prop where
 lo:0≤a.2
 hi:a.2≤9*l.length
 sum:a.2=if a.2=0 then 0 else chSum now a.1 l
 low:∀ x∈l,c6e now x=true→a.1≤x.target.prio∧0 < a.2
 nine:a.2≠0→1≤a.1∧a.1≤9
end Go.KP
end
section
namespace Go.KP
end Go.KP
end
section
namespace Go.KP
end Go.KP
end
section
namespace Go.KP
def O2 {α:Type} (f:α→Nat) (l:List α):Nat:=(l.map f).sum
def zS {α:Type} (f:α→Nat) (l:List α):Nat:=l.length+O2 f l
def bdS {α:Type} (B:Nat) (p:α→Prop) (l:List α):Prop:=l.length≤B∧∀ x∈l,p x
def cut (left:Int) (n:Nat):Int:=if left - n < 0 then -1 else left - n
theorem l7 {left:Int} {n:Nat} (h:left - n < 0):cut left n=-1:=if_pos h
theorem I5 {left:Int} {n:Nat} (h:¬ left - n < 0):cut left n=left - n:=if_neg h
theorem c40 {left:Int} {n:Nat} (h:¬ cut left n < 0) (h0:0≤left):(n:Int)≤left∧cut left n=left - n:=by
 unfold cut at *
 split at h<;>rename_i h1
 · omega
 · rw [if_neg h1];omega
theorem a29 {α:Type} {f:α→Nat} (l:List α) {i:Nat} (h:i < l.length):O2 f (l.take (i+1))=O2 f (l.take i)+f l[i]:=by
 unfold O2
 rw [List.take_add_one,List.getElem?_eq_getElem h,List.map_append,List.sum_append]
 simp
theorem a5j {α:Type} {f:α→Nat} (l:List α) (i:Nat):O2 f (l.take i)≤O2 f l:=by
 unfold O2
 conv=>rhs;rw [← List.take_append_drop i l]
 rw [List.map_append,List.sum_append]
 omega
theorem c6d {α:Type} {f:α→Nat} {l:List α} {x:α} (h:x∈l):f x≤O2 f l:=by
 unfold O2
 induction l with
 | nil=>cases h
 | cons y l ih=>
  rcases List.mem_cons.1 h with rfl | h
  · simp
  · have:=ih h;simp;omega
theorem a5s {α:Type} {B:Nat} {f:α→Nat} {p:α→Prop} {l:List α} (hp:∀ x,f x≤B→p x) (h:zS f l≤B):bdS B p l:=by
 unfold zS at h
 exact ⟨by omega,fun x hx=>hp x (by have:=c6d (f:=f) hx;omega)⟩
def S8 (x:LTarget):Nat:=x.url.length
def V1 (B:Nat) (x:LTarget):Prop:=x.url.length≤B
theorem b1o {B:Nat} {x:LTarget} (h:S8 x≤B):V1 B x:=by
 unfold S8 at h
 unfold V1
 exact by omega
def Z2 (x:LPeer):Nat:=S8 x.target
def a1b (B:Nat) (x:LPeer):Prop:=V1 B x.target
theorem c5j {B:Nat} {x:LPeer} (h:Z2 x≤B):a1b B x:=by
 unfold Z2 at h
 unfold a1b
 exact b1o (by omega)
structure LGroup where
 name:Tx
 age:Int
 targets:List LTarget
 deriving DecidableEq
def a3q (x:LGroup):Nat:=x.name.length+zS S8 x.targets
def a1l (B:Nat) (x:LGroup):Prop:=x.name.length≤B∧bdS B (V1 B) x.targets
theorem c22 {B:Nat} {x:LGroup} (h:a3q x≤B):a1l B x:=by
 unfold a3q at h
 unfold a1l
 exact ⟨by omega,a5s (fun _ h=>b1o h) (show zS S8 x.targets≤B by omega)⟩
structure LRule where
 name:Tx
 words:List Tx
 deriving DecidableEq
def a0n (x:LRule):Nat:=x.name.length+zS List.length x.words
def a0d (B:Nat) (x:LRule):Prop:=x.name.length≤B∧bdS B (fun t=>t.length≤B) x.words
theorem c5h {B:Nat} {x:LRule} (h:a0n x≤B):a0d B x:=by
 unfold a0n at h
 unfold a0d
 exact ⟨by omega,a5s (fun _ h=>h) (show zS List.length x.words≤B by omega)⟩
structure LPolicy where
 reportTo:Tx
 uris:List Tx
 rules:List LRule
 deriving DecidableEq
def a10 (x:LPolicy):Nat:=x.reportTo.length+zS List.length x.uris+zS a0n x.rules
def Z8 (B:Nat) (x:LPolicy):Prop:=x.reportTo.length≤B∧bdS B (fun t=>t.length≤B) x.uris∧bdS B (a0d B) x.rules
theorem b9h {B:Nat} {x:LPolicy} (h:a10 x≤B):Z8 B x:=by
 unfold a10 at h
 unfold Z8
 exact ⟨by omega,a5s (fun _ h=>h) (show zS List.length x.uris≤B by omega),a5s (fun _ h=>c5h h) (show zS a0n x.rules≤B by omega)⟩
structure LViolation where
 document:Tx
 referrer:Tx
 blocked:Tx
 source:Tx
 directive:Tx
 sample:Tx
 line:Int
 column:Int
 redirected:Bool
 deriving DecidableEq
structure LReport where
 id:Int
 born:Int
 tries:Int
 body:Tx
 deriving DecidableEq
def S5 (x:LReport):Nat:=x.body.length
def Y5 (B:Nat) (x:LReport):Prop:=x.body.length≤B
theorem b9g {B:Nat} {x:LReport} (h:S5 x≤B):Y5 B x:=by
 unfold S5 at h
 unfold Y5
 exact by omega
structure LQueue where
 items:List LReport
 recent:List Tx
 deriving DecidableEq
def a9j (x:LQueue):Nat:=zS S5 x.items+zS List.length x.recent
def a14 (B:Nat) (x:LQueue):Prop:=bdS B (Y5 B) x.items∧bdS B (fun t=>t.length≤B) x.recent
theorem c2z {B:Nat} {x:LQueue} (h:a9j x≤B):a14 B x:=by
 unfold a9j at h
 unfold a14
 exact ⟨a5s (fun _ h=>b9g h) (show zS S5 x.items≤B by omega),a5s (fun _ h=>h) (show zS List.length x.recent≤B by omega)⟩
structure LChannel where
 group:LGroup
 peers:List LPeer
 queue:LQueue
 deriving DecidableEq
def J3 (x:LChannel):Nat:=a3q x.group+zS Z2 x.peers+a9j x.queue
def T8 (B:Nat) (x:LChannel):Prop:=a1l B x.group∧bdS B (a1b B) x.peers∧a14 B x.queue
theorem b6v {B:Nat} {x:LChannel} (h:J3 x≤B):T8 B x:=by
 unfold J3 at h
 unfold T8
 exact ⟨c22 (by omega),a5s (fun _ h=>c5j h) (show zS Z2 x.peers≤B by omega),c2z (by omega)⟩
structure LEntry where
 kind:Int
 id:Int
 at_:Int
 deriving DecidableEq
def a9g (B:Nat) (x:LEntry):Prop:=True
structure LWire where
 at_:Int
 status:Int
 group:Tx
 url:Tx
 ids:List Int
 body:Tx
 lost:Bool
 deriving DecidableEq
def a0m (x:LWire):Nat:=x.group.length+x.url.length+x.ids.length+x.body.length
def a0t (B:Nat) (x:LWire):Prop:=x.group.length≤B∧x.url.length≤B∧x.ids.length≤B∧x.body.length≤B
theorem c5g {B:Nat} {x:LWire} (h:a0m x≤B):a0t B x:=by
 unfold a0m at h
 unfold a0t
 exact ⟨by omega,by omega,by omega,by omega⟩
structure LPipe where
 channels:List LChannel
 policy:LPolicy
 now:Int
 next:Int
 log:List LEntry
 wires:List LWire
 deriving DecidableEq
def b6u (x:LPipe):Nat:=zS J3 x.channels+a10 x.policy+x.log.length+zS a0m x.wires
def a0y (B:Nat) (x:LPipe):Prop:=bdS B (T8 B) x.channels∧Z8 B x.policy∧x.log.length≤B∧bdS B (a0t B) x.wires
theorem c5i {B:Nat} {x:LPipe} (h:b6u x≤B):a0y B x:=by
 unfold b6u at h
 unfold a0y
 exact ⟨a5s (fun _ h=>b6v h) (show zS J3 x.channels≤B by omega),b9h (by omega),by omega,a5s (fun _ h=>c5g h) (show zS a0m x.wires≤B by omega)⟩
structure LEvent where
 kind:Int
 draw:Int
 status:Int
 ticks:Int
 text:Tx
 name:Tx
 violation:LViolation
 lost:Bool
 deriving DecidableEq
structure LParcel where
 id:Int
 age:Int
 body:Tx
 deriving DecidableEq
structure LBox where
 ids:List Int
 times:List Int
 bodies:List Tx
 deriving DecidableEq
end Go.KP
end
section
namespace Go.KP
def X8 (p q:UInt8→Bool) (t:Tx):Bool:=(t.take 1).all p && t.all q
theorem a2t {p q:UInt8→Bool} (hpq:∀ c,p c=true→q c=true) (t:Tx) (i:Nat) (h:i < t.length):X8 p q (t.take (i+1))=(X8 p q (t.take i) && (if i=0 then p t[i] else q t[i])):=by
 unfold X8
 rw [S0 t _ i h]
 by_cases hi:i=0
 · subst hi
   have:(t.take (0+1)).take 1=[t[0]]:=by
    cases t with
    | nil=>simp at h
    | cons c r=>simp
   rw [this]
   have:=hpq t[0]
   cases hp:p t[0]<;>simp_all
 · have e1:(t.take (i+1)).take 1=t.take 1:=by rw [List.take_take,Nat.min_eq_left (by omega)]
   have e2:(t.take i).take 1=t.take 1:=by rw [List.take_take,Nat.min_eq_left (by omega)]
   rw [e1,e2]
   simp [hi,Bool.and_assoc]
theorem a1z {p q:UInt8→Bool} (t:Tx) (i:Nat) (h:i < t.length) (hb:(if i=0 then p t[i] else q t[i])=false):X8 p q t=false:=by
 unfold X8
 by_cases hi:i=0
 · subst hi
   rw [if_pos rfl] at hb
   cases t with
   | nil=>simp at h
   | cons c r=>simp at hb;simp [hb]
 · rw [if_neg hi] at hb
   have:t.all q=false:=by rw [List.all_eq_false];exact ⟨t[i],List.getElem_mem h,by simp [hb]⟩
   simp [this]
def isUp (c:UInt8):Bool:=decide (65≤c.toNat∧c.toNat≤90)
def a08 (c:UInt8):Bool:=O4 c || isUp c || decide (c.toNat=95)
def a2z (c:UInt8):Bool:=a08 c || O0 c
def a0z (t:Tx):Bool:=decide (1≤t.length∧t.length≤12) && X8 a08 a2z t
def a2c (c:UInt8):Bool:=O4 c || decide (c.toNat=45)
def a1w (t:Tx):Bool:=decide (1≤t.length∧t.length≤24) && X8 O4 a2c t
def a1x (l:List Tx):Bool:=decide l.Nodup
theorem b91 (l:List Tx) (x:Tx):(l++[x]).Nodup↔l.Nodup∧x∉l:=by
 rw [List.nodup_append]
 constructor
 · rintro ⟨h1,_,h3⟩
   exact ⟨h1,fun hx=>h3 x hx x (by simp) rfl⟩
 · rintro ⟨h1,h2⟩
   refine ⟨h1,by simp,fun a ha b hb e=>?_⟩
   rw [List.mem_singleton] at hb
   subst hb;subst e
   exact h2 ha
theorem a28 (l:List Tx) (i:Nat) (h:i < l.length):a1x (l.take (i+1))=(a1x (l.take i) && decide (l[i]∉l.take i)):=by
 unfold a1x
 rw [List.take_add_one,List.getElem?_eq_getElem h,Bool.eq_iff_iff,Bool.and_eq_true,decide_eq_true_eq,decide_eq_true_eq,decide_eq_true_eq]
 exact b91 _ _
theorem b0q (l:List Tx) (i:Nat) (h:a1x (l.take i)=false):a1x l=false:=by
 unfold a1x at *
 rw [decide_eq_false_iff_not] at *
 exact fun hn=>h (hn.sublist (List.take_sublist i l))
def a0v {α:Type} (l:List α) (p:α→Bool):Int:=match l.findIdx? p with
 | some i=>i
 | none=>-1
theorem a4l {α:Type} (l:List α) (p:α→Bool):decide (0≤a0v l p)=l.any p:=by
 unfold a0v
 cases h:l.findIdx? p with
 | none=>
  rw [List.findIdx?_eq_none_iff] at h
  rw [Bool.eq_iff_iff]
  simp only [decide_eq_true_eq,List.any_eq_true]
  constructor
  · intro h;omega
  · rintro ⟨x,hx,hp⟩;rw [h x hx] at hp;cases hp
 | some i=>
  rw [List.findIdx?_eq_some_iff_getElem] at h
  obtain ⟨hi,hp,_⟩:=h
  show decide (0≤(i:Int))=_
  rw [decide_eq_true (by omega)]
  symm
  rw [List.any_eq_true]
  exact ⟨l[i],List.getElem_mem hi,hp⟩
theorem Z6 {α:Type} {l:List α} {p:α→Bool} {i:Nat} (hi:i < l.length) (hp:p l[i]=true) (h:∀ k (hk:k < i),p (l[k]'(by omega))=false):a0v l p=i:=by
 unfold a0v
 have:l.findIdx? p=some i:=by
  rw [List.findIdx?_eq_some_iff_getElem]
  exact ⟨hi,hp,fun j hj=>by simp [h j hj]⟩
 rw [this]
theorem Y3 {α:Type} {l:List α} {p:α→Bool} (h:∀ k (hk:k < l.length),p l[k]=false):a0v l p=-1:=by
 unfold a0v
 have:l.findIdx? p=none:=by
  rw [List.findIdx?_eq_none_iff]
  intro x hx
  obtain ⟨k,hk,rfl⟩:=List.getElem_of_mem hx
  exact h k hk
 rw [this]
theorem a9x {α:Type} (l:List α) (p:α→Bool):(a0v l p=-1∧l.find? p=none)∨∃ i,∃ h:i < l.length,a0v l p=i∧l.find? p=some l[i]:=by
 unfold a0v
 cases h:l.findIdx? p with
 | none=>
  rw [List.findIdx?_eq_none_iff] at h
  exact .inl ⟨rfl,List.find?_eq_none.2 fun x hx=>by simp [h x hx]⟩
 | some i=>
  rw [List.findIdx?_eq_some_iff_getElem] at h
  obtain ⟨hi,hp,hlt⟩:=h
  exact .inr ⟨i,hi,rfl,List.find?_eq_some_iff_getElem.2 ⟨hp,i,hi,rfl,fun j hj=>by simpa using hlt j hj⟩⟩
theorem a9w {α:Type} (f:α→Tx) (l:List α) (i:Nat) (h:i < l.length):a0v l (fun x=>decide (f x=f l[i]))=(i:Int)↔f l[i]∉(l.map f).take i:=by
 constructor
 · intro hl hm
   unfold a0v at hl
   rw [List.mem_take_iff_getElem] at hm
   obtain ⟨k,hk,hke⟩:=hm
   have hk1:k < i:=by omega
   rw [List.getElem_map] at hke
   split at hl
   · rename_i j hj
     have:j=i:=by omega
     subst this
     rw [List.findIdx?_eq_some_iff_getElem] at hj
     have:=hj.2.2 k hk1
     simp [hke] at this
   · omega
 · intro hm
   refine Z6 h (by simp) fun k hk=>?_
   rw [decide_eq_false_iff_not]
   intro e
   exact hm (by rw [List.mem_take_iff_getElem];exact ⟨k,by simp;omega,by rw [List.getElem_map];exact e⟩)
theorem a5y {α β:Type} (f:β→α→β) (b:β) (l:List α) (i:Nat) (h:i < l.length):(l.take (i+1)).foldl f b=f ((l.take i).foldl f b) l[i]:=by
 rw [List.take_add_one,List.getElem?_eq_getElem h,List.foldl_append];rfl
def a71 (t:Tx):Option Tx:=
 if (C4 t).2 && a0f (C4 t).1.scheme then some (X9 { (C4 t).1 with frag:=[],hasF:=false }) else none
theorem a87 {t:Tx} {c:UInt8} (h:c∈t):t.length=(l0 t c).length+1+(C1 t c).length:=by
 have:=W7.2 h
 unfold l0 C1
 simp;omega
theorem b7w (t:Tx):(R7 t).length=t.length:=by simp [R7]
theorem c3p {sc r:Tx} {p:Int} (h:a1y sc r=some p):r.length≤(l0 r 58).length+21:=by
 unfold a1y at h
 split at h
 · rename_i hm
   rw [a87 hm]
   split at h
   · rename_i n hn
     obtain ⟨_,_,u,_,_,h3,h4⟩:=a5k hn
     rcases h4 with ⟨h4,_⟩ | ⟨h4,_⟩
     · rw [h4];simp;omega
     · rw [h4];omega
   · cases h
 · rename_i hm
   rw [a07 hm];omega
theorem b99 {t:Tx} (h:(C4 t).2=true) (hw:a0f (C4 t).1.scheme=true):t.length≤200:=by
 have hok:=a69 h
 have hlen:=b2g hok
 unfold C4 at h hw hlen
 split at h
 · rename_i h58
   rw [if_pos h58] at hw hlen
   dsimp only at h hw hlen
   split at h
   · rename_i hsc
     rw [if_pos hsc] at hw hlen
     split at h
     · rename_i h2
       rw [if_pos h2] at hw hlen
       rw [a87 h58]
       have hr:(C1 t 58).length≤2+((C1 t 58).drop 2).length:=by simp;omega
       have hscl:=b7w (l0 t 58)
       generalize (C1 t 58).drop 2=r0 at *
       generalize R7 (l0 t 58)=sc at *
       unfold a4k at h hw hlen
       dsimp only at h hw hlen
       have k0:r0.length≤(l0 r0 35).length+(if 35∈r0 then 1+(C1 r0 35).length else 0):=by
        split
        · rename_i hm;rw [a87 hm];omega
        · rename_i hm;rw [a07 hm];omega
       generalize l0 r0 35=r1 at *
       have k1:r1.length≤(l0 r1 63).length+(if 63∈r1 then 1+(C1 r1 63).length else 0):=by
        split
        · rename_i hm;rw [a87 hm];omega
        · rename_i hm;rw [a07 hm];omega
       generalize l0 r1 63=r2 at *
       have k2:r2.length≤(l0 r2 47).length+(if 47∈r2 then r2.drop (L3 r2 47) else [47]).length:=by
        split
        · unfold l0;simp;omega
        · rename_i hm;rw [a07 hm];omega
       generalize (if 47∈r2 then r2.drop (L3 r2 47) else [47])=pa at *
       generalize l0 r2 47=r3 at *
       have k3:r3.length≤(if 64∈r3 then C1 r3 64 else r3).length+1+(if 64∈r3 then l0 r3 64 else []).length:=by
        split
        · rename_i hm;rw [a87 hm];omega
        · simp
       generalize (if 64∈r3 then C1 r3 64 else r3)=r4 at *
       generalize (if 64∈r3 then l0 r3 64 else [])=us at *
       cases hp:a1y sc r4 with
       | none=>rw [hp] at h;cases h
       | some p=>
        rw [hp] at hlen
        have k4:=c3p hp
        have k5:=b7w (l0 r4 58)
        dsimp only at hlen
        unfold X9 at hlen
        dsimp only at hlen
        rw [if_pos hsc] at hlen
        simp only [List.length_append,List.length_cons,List.length_nil] at hlen
        have q1:us.length≤(if us=[] then [] else us++[64]).length:=by split<;>simp_all
        have q2:(if 63∈r1 then 1+(C1 r1 63).length else 0)≤(if decide (63∈r1)=true then 63 :: C1 r1 63 else []).length:=by
         by_cases hm:63∈r1<;>simp [hm];omega
        have q3:(if 35∈r0 then 1+(C1 r0 35).length else 0)≤(if decide (35∈r0)=true then 35 :: C1 r0 35 else []).length:=by
         by_cases hm:35∈r0<;>simp [hm];omega
        omega
     · cases h
   · rename_i hsc
     rw [if_neg hsc] at hw
     exact absurd hw hsc
 · cases h
theorem b36 (t:Tx):a16 t=a71 t:=by
 unfold a16 a71
 by_cases hb:((C4 t).2 && a0f (C4 t).1.scheme)=true
 · have h:=hb
   simp only [Bool.and_eq_true] at h
   have hl:=b99 h.1 h.2
   rw [if_pos (by omega),if_pos hb,if_pos hb]
   rw [a6g]
   exact (a6f (a69 h.1):0≤(C4 t).1.port)
 · rw [if_neg hb,if_neg hb];split<;>rfl
def a23:Tx:=[114,101,112,111,114,116,45,116,111]
def a06:Tx:=[114,101,112,111,114,116,45,117,114,105]
def Z4 (w:Tx):Bool:=decide (w≠[]) && w.all fun c=>!decide (c.toNat=32∨c.toNat=9∨c.toNat=59)
def X2 (r:LRule):Bool:=a1w r.name && decide (r.words.length≤8) && r.words.all Z4
def W6 (l:List LRule) (name:Tx):List Tx:=match l.find? (fun r=>decide (r.name=name)) with
 | some r=>r.words
 | none=>[]
def a38 (ws:List Tx):Tx:=match ws with
 | w :: _=>if a0z w then w else []
 | []=>[]
def a2o (l:List LRule):Tx:=a38 (W6 l a23)
def R2 (acc:List Tx) (w:Tx):List Tx:=match a71 w with
 | some u=>if u∉acc∧acc.length < 4 then acc++[u] else acc
 | none=>acc
def a2n (l:List LRule):List Tx:=(W6 l a06).foldl R2 []
theorem b61 (acc:List Tx) (w:Tx) (h:acc.length≤4):(R2 acc w).length≤4:=by
 unfold R2
 split
 · split
   · simp;omega
   · exact h
 · exact h
theorem a57:∀ (l:List Tx) (acc:List Tx),acc.length≤4→(l.foldl R2 acc).length≤4
 | [],_,h=>h
 | w :: l,acc,h=>a57 l _ (b61 acc w h)
def Y2 (p:LPolicy):Bool:=
 decide (p.rules.length≤8) && (p.rules.all X2 && a1x (p.rules.map fun r=>r.name)) && (decide (p.reportTo=a2o p.rules) && decide (p.uris=a2n p.rules))
def a2p (g:LGroup):Bool:=
 a0z g.name && decide (1≤g.age∧g.age≤100) && decide (1≤g.targets.length∧g.targets.length≤4) && (g.targets.all P3 && a1x (g.targets.map fun t=>t.url))
end Go.KP
end
section
namespace Go.KP
theorem b48 (l:List LTarget):Y6 l=a1x (l.map fun t=>t.url):=by
 have key:∀ i,i≤l.length→Y6 (l.take i)=a1x ((l.map fun t=>t.url).take i):=by
  intro i
  induction i with
  | zero=>intro _;simp [Y6,a1x,U2]
  | succ i ih=>
   intro hi
   rw [a8m l i (by omega),a28 _ i (by simp;omega),ih (by omega)]
   simp only [List.getElem_map,List.map_take]
 have:=key l.length (Nat.le_refl _)
 rw [List.take_length,List.take_of_length_le (by simp)] at this
 exact this
end Go.KP
end
section
namespace Go.KP
def Z9 (n:Nat) (p:Nat→Bool):Bool:=(List.range n).all p
theorem a0x (p:Nat→Bool):Z9 0 p=true:=rfl
theorem a0l (p:Nat→Bool) (n:Nat):Z9 (n+1) p=(Z9 n p && p n):=by simp [Z9,List.range_succ]
theorem a3o {p:Nat→Bool} {n i:Nat} (hi:i < n) (h:p i=false):Z9 n p=false:=by
 unfold Z9
 rw [List.all_eq_false]
 exact ⟨i,List.mem_range.2 hi,by simp [h]⟩
def Y9 (r:LReport):Bool:=decide (1≤r.id∧r.id≤1000000) && decide (0≤r.born∧r.born≤1000000) && decide (0≤r.tries∧r.tries≤3) && decide (1≤r.body.length∧r.body.length≤8000)
def a4j (l:List LReport) (i:Nat):Bool:=match l[i]? with
 | some r=>Y9 r && (match i with
  | 0=>true
  | j+1=>match l[j]? with
   | some s=>decide (s.id < r.id) && decide (s.born≤r.born)
   | none=>true)
 | none=>true
theorem b14 {l:List LReport} (h:0 < l.length):a4j l 0=Y9 l[0]:=by
 unfold a4j
 rw [List.getElem?_eq_getElem h]
 simp
theorem b15 {l:List LReport} {j:Nat} (h:j+1 < l.length):a4j l (j+1)=(Y9 l[j+1] && (decide (l[j].id < l[j+1].id) && decide (l[j].born≤l[j+1].born))):=by
 have e:=List.getElem?_eq_getElem (show j < l.length by omega)
 simp only [a4j,List.getElem?_eq_getElem h,e]
def a7i (l:List Tx) (i:Nat):Bool:=match l[i]? with
 | some t=>decide (1≤t.length∧t.length≤8000) && decide (t∉l.take i)
 | none=>true
theorem b7f {l:List Tx} {i:Nat} (h:i < l.length):a7i l i=(decide (1≤l[i].length∧l[i].length≤8000) && decide (l[i]∉l.take i)):=by
 unfold a7i
 rw [List.getElem?_eq_getElem h]
def T9 (q:LQueue):Bool:=decide (q.items.length≤5) && decide (q.recent.length≤6) && (Z9 q.items.length (a4j q.items) && Z9 q.recent.length (a7i q.recent))
def S3 (next now:Int) (c:LChannel):Bool:=a2p c.group && Z5 c.peers && decide (c.peers.map (fun p=>p.target)=c.group.targets) && T9 c.queue && c.queue.items.all fun r=>decide (r.id < next) && decide (r.born≤now)
def a4w (next:Int) (l:List Int) (i:Nat):Bool:=match l[i]? with
 | some r=>decide (1≤r∧r≤next - 1) && (match i with
  | 0=>true
  | j+1=>match l[j]? with
   | some s=>decide (s < r)
   | none=>true)
 | none=>true
theorem b4j {next:Int} {l:List Int} (h:0 < l.length):a4w next l 0=decide ((1:Int)≤l[0]∧l[0]≤next - 1):=by
 unfold a4w
 rw [List.getElem?_eq_getElem h]
 simp
theorem b4k {next:Int} {l:List Int} {j:Nat} (h:j+1 < l.length):a4w next l (j+1)=(decide ((1:Int)≤l[j+1]∧l[j+1]≤next - 1) && decide (l[j] < l[j+1])):=by
 have e:=List.getElem?_eq_getElem (show j < l.length by omega)
 simp only [a4w,List.getElem?_eq_getElem h,e]
def W3 (next now:Int) (w:LWire):Bool:=decide (0≤w.at_∧w.at_≤now) && decide (100≤w.status∧w.status≤599) && a0z w.group && decide (w.url.length≤100) && decide (1≤w.ids.length∧w.ids.length≤3) && decide (w.body.length≤65536) && Z9 w.ids.length (a4w next w.ids)
def a3m (next now:Int) (l:List LEntry) (i:Nat):Bool:=match l[i]? with
 | some x=>decide (1≤x.kind∧x.kind≤7) && decide (1≤x.id∧x.id≤next - 1) && decide ((match i with | 0=>0 | j+1=>match l[j]? with | some y=>y.at_ | none=>0)≤x.at_∧x.at_≤now)
 | none=>true
def a7q (l:List LEntry):Nat→Int
 | 0=>0
 | j+1=>match l[j]? with | some y=>y.at_ | none=>0
theorem b24 {next now:Int} {l:List LEntry} {i:Nat} (h:i < l.length):a3m next now l i=(decide (1≤l[i].kind∧l[i].kind≤7) && decide (1≤l[i].id∧l[i].id≤next - 1) && decide (a7q l i≤l[i].at_∧l[i].at_≤now)):=by
 unfold a3m
 rw [List.getElem?_eq_getElem h]
 cases i<;>rfl
theorem a8b {l:List LEntry} {i:Nat} (h:i < l.length):a7q l (i+1)=l[i].at_:=by
 simp only [a7q,List.getElem?_eq_getElem h]
theorem a9c {next now:Int} {l:List LEntry}:∀ {i:Nat},i≤l.length→Z9 i (a3m next now l)=true→0≤a7q l i
 | 0,_,_=>Int.le_refl 0
 | i+1,hi,h=>by
  rw [a0l,Bool.and_eq_true] at h
  have ih:=a9c (i:=i) (by omega) h.1
  have h2:=h.2
  rw [b24 (by omega)] at h2
  simp only [Bool.and_eq_true,decide_eq_true_eq] at h2
  rw [a8b (by omega)]
  omega
def a2u (p:LPipe) (i:Nat):Bool:=match p.channels[i]? with
 | some c=>decide (c.group.name∉(p.channels.map fun c=>c.group.name).take i) && S3 p.next p.now c
 | none=>true
theorem b4q {p:LPipe} {i:Nat} (h:i < p.channels.length):a2u p i=(decide (p.channels[i].group.name∉(p.channels.map fun c=>c.group.name).take i) && S3 p.next p.now p.channels[i]):=by
 unfold a2u
 rw [List.getElem?_eq_getElem h]
def J2 (p:LPipe):Bool:=decide (p.channels.length≤5) && Y2 p.policy && decide (0≤p.now∧p.now≤1000000) && decide (1≤p.next∧p.next≤1000000) && decide (p.log.length≤4096) && decide (p.wires.length≤4096) &&
 (Z9 p.channels.length (a2u p) && Z9 p.log.length (a3m p.next p.now p.log) && p.wires.all (W3 p.next p.now))
def a5w (w:LWire):Bool:=decide (200≤w.status∧w.status≤299)
def X4 (lost:Bool) (id:Int) (l:List LWire):Nat:=l.countP fun w=>decide (id∈w.ids) && a5w w && (w.lost || !lost)
theorem b5w (lost:Bool) (id:Int) (l:List LWire) (i:Nat) (h:i < l.length):X4 lost id (l.take (i+1))=X4 lost id (l.take i)+if (decide (id∈l[i].ids) && a5w l[i] && (l[i].lost || !lost))=true then 1 else 0:=by
 unfold X4
 rw [List.take_add_one,List.getElem?_eq_getElem h,List.countP_append]
 simp [List.countP_cons]
theorem a81 {q:LQueue} {i:Nat} (hi:i < q.items.length) (h:a4j q.items i=false):T9 q=false:=by
 unfold T9;rw [a3o hi h];simp
theorem a82 {q:LQueue} {i:Nat} (hi:i < q.recent.length) (h:a7i q.recent i=false):T9 q=false:=by
 unfold T9;rw [a3o hi h];simp
end Go.KP
end
section
namespace Go.PW
open Go.RowKit Go.KP
theorem u8_eq {a b:UInt8}:((a.toNat:Int)=(b.toNat:Int))↔a=b:=by
 constructor
 · intro h;exact UInt8.toNat_inj.1 (by omega)
 · rintro rfl;rfl
def rvb (c:UInt8):RV:=.int .u8 c.toNat
def tx (t:Tx):RV:=.str (bs t)
def num (n:Int):RV:=.int .i64 n
theorem b88 (l:Tx):Y7 (l.map rvb)=bs l:=by
 unfold Y7 bs
 congr 1
 congr 1
 rw [List.map_map]
 have:(RV.byte ∘ rvb)=id:=by
  funext c
  simp [rvb,RV.byte]
 rw [this];simp
theorem b46 {x:Int} (h1:0≤x) (h2:x < 256):IntKind.u8.wrap x=x:=by
 unfold IntKind.wrap
 simp [IntKind.bits,IntKind.signed]
 omega
def X7 (u:LUrl):RV:=.agg [tx u.scheme,tx u.user,tx u.host,num u.port,tx u.path,tx u.query,tx u.frag,.bool u.hasQ,.bool u.hasF]
end Go.PW
end
section
namespace Go.PW
open Go.RowKit Go.KP
variable [GF]
theorem b17 (φ:Nat→Option RV) (rs:List RV):PV.plL (PV.frzL φ (rs.map .val))=rs.map .val:=by
 induction rs with
 | nil=>rfl
 | cons r rs ih=>simp [PV.frzL,PV.plL,PV.frz,PV.pl,ih]
theorem c1x {st:St} {s n t id:Nat} {rs:List RV} {r:RV} (h1:st.env s=.ptr id 0) (h2:st.mem id=.box (rs.map .val)) (h3:rs.length=n) (h4:0 < n) (h5:st.env t=.val r) :
 a02 [.c s true n,.t t] st.fin=some (.tup [J4 (rs.map .val),.val r]):=by
 have e1:st.fin.env s=.ptr id 0:=by rw [N7,h1];simp [PV.frz,a00,h2,PV.pl]
 have e2:st.fin.mem id=.box (rs.map .val):=by
  simp only [St.fin,St.freeze,h2,MObj.pl,b17]
 have e3:st.fin.env t=.val r:=by rw [N7,h5];rfl
 simp only [a02,a6b,b7d,e1,e2,e3]
 simp only [List.length_map,h3,Nat.zero_add,List.drop_zero,if_true]
 rw [if_pos ⟨by omega,h4⟩,List.take_of_length_le (by simp [h3])]
 rfl
theorem a31 {st:St} {s n id:Nat} {rs:List RV} (h1:st.env s=.ptr id 0) (h2:st.mem id=.box (rs.map .val)) (h3:rs.length=n) (h4:0 < n) :
 a02 [.c s true n] st.fin=some (J4 (rs.map .val)):=by
 have e1:st.fin.env s=.ptr id 0:=by rw [N7,h1];simp [PV.frz,a00,h2,PV.pl]
 have e2:st.fin.mem id=.box (rs.map .val):=by
  simp only [St.fin,St.freeze,h2,MObj.pl,b17]
 simp only [a02,b7d,e1,e2]
 simp only [List.length_map,h3,Nat.zero_add,List.drop_zero,if_true]
 rw [if_pos ⟨by omega,h4⟩,List.take_of_length_le (by simp [h3])]
def b0d (u:LUrl):List RV:=[tx u.scheme,tx u.user,tx u.host,num u.port,tx u.path,tx u.query,tx u.frag,.bool u.hasQ,.bool u.hasF]
def i8 (u:LUrl):List PV:=[.val (tx u.scheme),.val (tx u.user),.val (tx u.host),.val (num u.port),.val (tx u.path),.val (tx u.query),.val (tx u.frag),.val (.bool u.hasQ),.val (.bool u.hasF)]
theorem b0e (u:LUrl):i8 u=(b0d u).map .val:=rfl
def a40 (r:LUrl×Bool):PV:=.tup [.val (X7 r.1),.val (.bool r.2)]
theorem b4h (u:LUrl):J4 ((b0d u).map .val)=.val (X7 u):=by simp [b0d,J4,j2,X7]
theorem a6c {st:St} {s t id:Nat} {u:LUrl} {b:Bool} (h1:st.env s=.ptr id 0) (h2:st.mem id=.box (i8 u)) (h5:st.env t=.val (.bool b)):a02 [.c s true 9,.t t] st.fin=some (a40 (u,b)):=by
 rw [c1x (n:=9) (rs:=b0d u) h1 (by rw [h2,b0e]) rfl (by omega) h5,b4h]
 rfl
def j4 (x:LTarget):RV:=.agg [tx x.url,num x.prio,num x.weight]
def C6 (x:LPeer):RV:=.agg [tx x.target.url,num x.target.prio,num x.target.weight,num x.fails,num x.retry,.bool x.gone]
def O1 (l:List LPeer):RV:=.list 6 (l.map C6)
theorem a6x {P:Program} {st:St} {Ke:Kx (PV→St→Prop)} {kx:Kx (RV→St→Prop)} {d f ps as p} (ha:a4g st.mem ps=some as) (hb:boxIds ps=[]) (hs:∀ b,p.shift b=p) (ho:p.ownLt 0=true) (hr:ps.all PV.noOwn=true∨p.flat=true) (h:f8 P f as (.ret p []) []) (hK:Ke.k p st):KC P st d f ps (Ke:=Ke) (kx:=kx):=by
 refine a4c (K:=fun q st'=>q=p∧st'=st) (kx:=fun _ _=>False) (fun p s hh=>by obtain ⟨rfl,rfl⟩:=hh;exact hK) (fun _ _ hh=>hh.elim) (a4q ?_)
 unfold a3u
 rw [ha]
 exact ⟨hb,p,h,hs,ho,hr,rfl⟩
theorem X6 {P:Program} {st:St} {Ke:Kx (PV→St→Prop)} {kx:Kx (RV→St→Prop)} {d f ps as a b} (ha:a4g st.mem ps=some as) (hb:boxIds ps=[]) (hr:ps.all PV.noOwn=true∨(PV.tup [.val a,.val b]).flat=true) (h:f8 P f as (.ret (.tup [.val a,.val b]) []) []) (hK:Ke.k (.tup [.val a,.val b]) st):KC P st d f ps (Ke:=Ke) (kx:=kx):=
 a6x ha hb (fun _=>rfl) rfl hr h hK
theorem a1a {P:Program} {st:St} {Ke:Kx (PV→St→Prop)} {kx:Kx (RV→St→Prop)} {d f ps as a b c} (ha:a4g st.mem ps=some as) (hb:boxIds ps=[]) (hr:ps.all PV.noOwn=true∨(PV.tup [.val a,.val b,.val c]).flat=true) (h:f8 P f as (.ret (.tup [.val a,.val b,.val c]) []) []) (hK:Ke.k (.tup [.val a,.val b,.val c]) st):KC P st d f ps (Ke:=Ke) (kx:=kx):=
 a6x ha hb (fun _=>rfl) rfl hr h hK
end Go.PW
end
section
namespace Go.PW
open Go.RowKit Go.KP
variable [GF]
def RV.sv:RV→Option Value
 | .str s=>some (.string s)
 | .int k n=>some (.int k n)
 | .bool b=>some (.bool b)
 | _=>none
def svs:List RV→Option (List Value)
 | []=>some []
 | r :: rs=>match r.sv,svs rs with
  | some v,some vs=>some (v :: vs)
  | _,_=>none
theorem sv_rep {L:Nat→Prop} {w:World} {r:RV} {v u:Value} (h:r.sv=some v) (hr:RepR L w r u):u=v:=by
 cases hr with
 | bool b=>simpa [RV.sv] using h
 | int k n=>simpa [RV.sv] using h
 | str s=>simpa [RV.sv] using h
 | _=>simp [RV.sv] at h
theorem c1t {L:Nat→Prop} {w:World} {r:RV} {v:Value} (h:r.sv=some v):RepR L w r v:=by
 cases r with
 | bool b=>simp [RV.sv] at h;subst h;exact .bool b
 | int k n=>simp [RV.sv] at h;subst h;exact .int k n
 | str s=>simp [RV.sv] at h;subst h;exact .str s
 | _=>simp [RV.sv] at h
theorem b6q {L:Nat→Prop} {w:World}:∀ {rs:List RV} {vals vs:List Value} {ms:List Nat},svs rs=some vals→ArgsRep L w (rs.map .val) vs ms→vs=vals∧ms=[]
 | [],vals,vs,ms,h,hr=>by
  simp [svs] at h;subst h
  cases hr;exact ⟨rfl,rfl⟩
 | r :: rs,vals,vs,ms,h,hr=>by
  rw [List.map_cons] at hr
  cases hr with
  | cons _ _ v vs' ms1 ms2 h1 h2=>
   cases h1 with
   | val _ _ h1=>
    simp only [svs] at h
    split at h
    · rename_i v' vs'' e1 e2
      obtain ⟨rfl,rfl⟩:=b6q e2 h2
      have:=sv_rep e1 h1
      subst this
      have:=Option.some.inj h
      exact ⟨this,rfl⟩
    · cases h
theorem b0o {F:Ctx} {γ:Nat→Value} {w:World}:MemInv F γ (O9 []) w:=
 ⟨fun id cs h=>by simp [O9] at h,fun id E sz xs h=>by simp [O9] at h,fun id E sz n c h=>by simp [O9] at h,fun id s clk m h=>by simp [O9] at h,fun id id' b h=>by simp [O9,MObj.live] at h⟩
theorem b4r {P:Program} {f:Nat} {rs:List RV} {vals:List Value} {p:PV} {v:Value} (ha:svs rs=some vals) (hp:∀ γ L w,RepP γ L w p v)
 (h:∀ L w,Globs L w→b4c L w→Calls P f vals.toArray w fun e w'=>e=.returned v∧Below w.heap.size w w'):f8 P f (rs.map .val) (.ret p []) []:=by
 intro L w vs ms hL hgl hgb hargs hnd
 obtain ⟨rfl,rfl⟩:=b6q ha hargs
 refine (h L w hgl hgb).mono fun e w' ⟨he,hb⟩=>?_
 exact ⟨Outside.of_below hb,v,fun _=>undef,he,hp _ _ _,b0o,rfl,fun i b cells h1 h2=>by simp at h1⟩
theorem a18 {P:Program} {f:Nat} {rs:List RV} {vals:List Value} {r:RV} {v:Value} (ha:svs rs=some vals) (hv:r.sv=some v)
 (h:∀ L w,Globs L w→b4c L w→Calls P f vals.toArray w fun e w'=>e=.returned v∧Below w.heap.size w w'):f8 P f (rs.map .val) (.ret (.val r) []) []:=
 b4r ha (fun γ L w=>.val _ _ (c1t hv)) h
theorem b1v:∀ {rs:List RV} {vals:List Value},svs rs=some vals→vals.length=rs.length
 | [],vals,h=>by simp [svs] at h;subst h;rfl
 | r :: rs,vals,h=>by
  simp only [svs] at h
  split at h
  · rename_i v vs e1 e2
    have:=b1v e2
    have h:=Option.some.inj h
    subst h;simp [this]
  · cases h
theorem b63 {L:Nat→Prop} {w:World}:∀ {rs:List RV} {vals:List Value},svs rs=some vals→∀ i,i < rs.length→RepR L w (rs.getD i .nilptr) (vals.getD i undef)
 | [],vals,h,i,hi=>by simp at hi
 | r :: rs,vals,h,i,hi=>by
  simp only [svs] at h
  split at h
  · rename_i v vs e1 e2
    have h:=Option.some.inj h
    subst h
    cases i with
    | zero=>simpa using c1t e1
    | succ i=>simpa using b63 e2 i (by simpa using hi)
  · cases h
theorem b3c {P:Program} {f:Nat} {rs:List RV} {vals:List Value} {qs:List RV} {us:List Value} (ha:svs rs=some vals) (hv:svs qs=some us)
 (h:∀ L w,Globs L w→b4c L w→Calls P f vals.toArray w fun e w'=>e=.returned (.tuple us.toArray)∧Below w.heap.size w w'):f8 P f (rs.map .val) (.ret (.tup (qs.map .val)) []) []:=
 b4r ha (fun γ L w=>.tup _ _ (by simp [b1v hv]) fun i hi=>by
  have hi':i < qs.length:=by simpa using hi
  have e1:(qs.map PV.val).getD i .undef=.val (qs.getD i .nilptr):=by simp [List.getD_eq_getElem?_getD,List.getElem?_eq_getElem hi']
  have e2:us.toArray.getD i undef=us.getD i undef:=by simp [List.getD_eq_getElem?_getD,Array.getD_eq_getD_getElem?]
  rw [e1,e2]
  exact .val _ _ (b63 hv i hi')) h
theorem a4f {w w':World} (h:w'=w):Below w.heap.size w w':=by subst h;exact Below.refl _ _
end Go.PW
end
section
namespace Go.PW
open Go.RowKit Go.KP
variable [GF]
def a2g (M:Nat→MObj):List Nat→List (List RV)→Prop
 | [],[]=>True
 | id :: ids,b :: bs=>M id=.box (b.map .val)∧a2g M ids bs
 | _,_=>False
def R6 (M:Nat→MObj):Nat→List (List RV)→Prop
 | _,[]=>True
 | k,b :: bs=>M (900+k)=.box (b.map .val)∧R6 M (k+1) bs
theorem a7h:∀ {M:Nat→MObj} {ids:List Nat} {B:List (List RV)},a2g M ids B→V5 M ids B=M
 | M,[],[],_=>rfl
 | M,id :: ids,b :: bs,h=>by
  have e:upd id (.box (b.map .val)) M=M:=by
   funext x
   by_cases hx:x=id
   · subst hx;rw [S1,h.1]
   · rw [U3 _ _ _ _ hx]
  simp only [V5]
  rw [e]
  exact a7h h.2
 | M,[],_ :: _,h=>h.elim
 | M,_ :: _,[],h=>h.elim
theorem b4e:∀ {M:Nat→MObj} {ids:List Nat} {B:List (List RV)},a2g M ids B→B.length=ids.length
 | M,[],[],_=>rfl
 | M,id :: ids,b :: bs,h=>by simp [b4e h.2]
 | M,[],_ :: _,h=>h.elim
 | M,_ :: _,[],h=>h.elim
theorem c5m (b:List RV):x6 (b.map .val)=some b:=by
 induction b with
 | nil=>rfl
 | cons r b ih=>simp [x6,ih]
theorem a9f {st:St}:∀ {k:Nat} {B:List (List RV)},R6 st.mem k B→a49 st.fin k B
 | k,[],_=>trivial
 | k,b :: B,h=>by
  have e2:st.fin.mem (900+k)=.box (b.map .val):=by
   simp only [St.fin,St.freeze,h.1,MObj.pl,b17]
  exact ⟨by rw [e2];exact c5m b,a9f h.2⟩
def RetB (res:List Rs) (p:PV) (B:List (List RV)):PExit→St→Prop
 | .normal,st=>a02 res st.fin=some p∧R6 st.mem 0 B
 | .ret,st=>a02 res st.fin=some p∧R6 st.mem 0 B
 | _,_=>False
@[simp] theorem S7 {res p B} {st:St}:RetB res p B .ret st=(a02 res st.fin=some p∧R6 st.mem 0 B):=by rfl
@[simp] theorem RetB_normal {res p B} {st:St}:RetB res p B .normal st=(a02 res st.fin=some p∧R6 st.mem 0 B):=by rfl
theorem V3 {P:Program} {f:Nat} {c:PC} {res:List Rs} {as:List AV} {p:PV} {B:List (List RV)} (hm:P.follows .mixedOrders=true) (hc:j7 P f c as.length res=true) (hb:b8 as=B) (hp:∀ ι,p.ren ι=p)
 (h:a0k P c (i6 as) (RetB res p B)):f8 P f as (.ret p []) B:=by
 refine c2p hm hc (V0 (fun e s hh=>?_) h)
 have key:a02 res s.fin=some p∧R6 s.mem 0 B→∃ st',Le s st'∧b9f res (b8 as).length (.ret p []) B .ret st':=fun hh=>
  ⟨s.fin,(Le.freeze s _).trans (Le.plain _),(by rw [hb]),⟨⟨id,by rw [hp];exact hh.1,fun i j hi=>by simp at hi,fun i r hr=>by simp at hr⟩,a9f hh.2⟩⟩
 cases e with
 | normal=>exact key hh
 | ret=>exact key hh
 | exit id=>exact hh.elim
 | pan r=>exact hh.elim
theorem b5y (st:St):st.kill (fun _=>false)=st:=by
 cases st with
 | mk env mem=>
  simp only [St.kill,PV.kill_none]
  congr 1
  funext x
  cases mem x with
  | dead=>rfl
  | row E sz xs=>rfl
  | box cs=>simp [MObj.kill,PV.killL_none]
  | prow E sz n c=>simp [MObj.kill,PV.kill_none]
  | map s clk m => 
   have:(fun k=>(m k).map fun p=>(p.1.kill fun _=>false,p.2))=m:=by funext k;cases m k<;>simp [PV.kill_none]
   simp only [MObj.kill,this];rfl
theorem U0 {P:Program} {st:St} {Ke:Kx (PV→St→Prop)} {kx:Kx (RV→St→Prop)} {d f ps as r ids B} (ha:a4g st.mem ps=some as) (hb:boxIds ps=ids) (hn:ids.Nodup) (hlt:ids.all (· < S6 d)=true) (hB:a2g st.mem ids B) (hr:ps.all PV.noOwn=true)
 (h:f8 P f as (.ret (.val r) []) B) (hK:Ke.k (.val r) st):KC P st d f ps (Ke:=Ke) (kx:=kx):=by
 unfold KC
 refine .inl ?_
 unfold a8h
 rw [ha]
 refine ⟨by rw [hb];exact hn,by rw [hb];exact hlt,.ret (.val r) [],B,h,by rw [hb];exact b4e hB,rfl,.inl hr,?_⟩
 have e:(fun i=>decide (S6 d≤i) && decide (i < S6 d+([]:List Row).length))=fun _=>false:=by
  funext i
  simp only [List.length_nil,Nat.add_zero,Bool.and_eq_false_imp,decide_eq_true_eq,decide_eq_false_iff_not]
  omega
 rw [e,b5y]
 simp only [a3d,hb]
 rw [a7h hB]
 exact hK
end Go.PW
end
section
namespace Go.PW
open Go.RowKit Go.KP
def a0u {α:Type} (r:α→RV) (z:RV) (l:List α) (i:Nat):List RV:=(l.take i).map r++List.replicate (l.length - i) z
theorem a1d {α:Type} (r:α→RV) (z:RV) (l:List α):a0u r z l 0=List.replicate l.length z:=by simp [a0u]
theorem a2m {α:Type} (r:α→RV) (z:RV) (l:List α):a0u r z l l.length=l.map r:=by simp [a0u]
theorem a2l {α:Type} (r:α→RV) (z:RV) (l:List α) (i:Nat) (h:i≤l.length):(a0u r z l i).length=l.length:=by simp [a0u];omega
theorem a2k {α:Type} (r:α→RV) (z:RV) (l:List α) (i:Nat) (h:i < l.length):(a0u r z l i).set i (r l[i])=a0u r z l (i+1):=by
 unfold a0u
 have h1:l.length - i=(l.length - (i+1))+1:=by omega
 have h2:((l.take i).map r).length=i:=by simp;omega
 rw [h1,List.replicate_succ,List.set_append_right _ _ (by omega),h2,Nat.sub_self,List.set_cons_zero]
 rw [List.take_add_one,List.getElem?_eq_getElem h,List.map_append,List.append_assoc]
 rfl
theorem a3v {α:Type} (r:α→RV) (z:RV) (l:List α) (i:Nat) (h:i < l.length):(a0u r z l i)[i]?.getD .nilptr=z:=by
 unfold a0u
 have h1:l.length - i=(l.length - (i+1))+1:=by omega
 have h2:((l.take i).map r).length=i:=by simp;omega
 rw [h1,List.replicate_succ,List.getElem?_append_right (by omega),h2]
 simp
def Y4 (o:Option Tx):PV:=.tup [.val (tx (o.getD [])),.val (.bool o.isSome)]
theorem b5c [GF] {st:St} {s n id:Nat} {cs:List PV} {rs:List RV} (h1:st.env s=.ptr id 0) (h2:st.mem id=.box cs) (hz:PV.plL (PV.frzL (a00 st fun _=>true) cs)=rs.map .val) (h3:rs.length=n) (h4:0 < n) :
 a02 [.c s true n] st.fin=some (J4 (rs.map .val)):=by
 have e1:st.fin.env s=.ptr id 0:=by rw [N7,h1];simp [PV.frz,a00,h2,PV.pl]
 have e2:st.fin.mem id=.box (rs.map .val):=by
  simp only [St.fin,St.freeze,h2,MObj.pl]
  rw [hz]
 simp only [a02,b7d,e1,e2]
 simp only [List.length_map,h3,Nat.zero_add,List.drop_zero,if_true]
 rw [if_pos ⟨by omega,h4⟩,List.take_of_length_le (by simp [h3])]
def c13 {α:Type} (sz id:Nat):List α→PV
 | []=>.emp sz
 | _ :: _=>.own id
def c5x {α:Type} (E sz:Nat) (r:α→RV):List α→MObj
 | []=>.dead
 | x :: xs=>.row E sz ((x :: xs).map r)
@[simp] theorem c3k {α:Type} (sz id:Nat):c13 sz id ([]:List α)=.emp sz:=rfl
@[simp] theorem ownOr_cons {α:Type} (sz id:Nat) (x:α) (xs:List α):c13 sz id (x :: xs)=.own id:=rfl
@[simp] theorem rowOr_nil {α:Type} (E sz:Nat) (r:α→RV):c5x E sz r []=.dead:=rfl
@[simp] theorem rowOr_cons {α:Type} (E sz:Nat) (r:α→RV) (x:α) (xs:List α):c5x E sz r (x :: xs)=.row E sz (r x :: xs.map r):=rfl
theorem Le.mkD [GF] {st:St} (le:List (Nat×PV)) (lm:List (Nat×MObj)) (h1:∀ kp∈le,st.env kp.1=kp.2) (h2:∀ kp∈lm,kp.2=.dead∨st.mem kp.1=kp.2):Le st ⟨x5 le,x4 lm⟩:=by
 refine Le.drop (fun i=>?_) (fun x=>?_)
 · show x4 lm i=st.mem i∨x4 lm i=.dead
   induction lm with
   | nil=>exact .inr rfl
   | cons kp lm ih=>
    obtain ⟨k,o⟩:=kp
    simp only [x4]
    split
    · rename_i e;subst e
      rcases h2 (i,o) (by simp) with h | h
      · exact .inr h
      · exact .inl h.symm
    · exact ih fun kp hkp=>h2 kp (by simp [hkp])
 · show Wk (st.env x) (x5 le x)
   induction le with
   | nil=>exact .undef _
   | cons kp le ih=>
    obtain ⟨k,p⟩:=kp
    simp only [x5]
    split
    · rename_i e;subst e;rw [h1 (x,p) (by simp)];exact .refl p
    · exact ih fun kp hkp=>h1 kp (by simp [hkp])
@[simp] theorem rvTarget_len (x:LTarget):(j4 x).cells.length=3:=rfl
@[simp] theorem rvPeer_len (x:LPeer):(C6 x).cells.length=6:=rfl
def I8 (x:LGroup):RV:=.agg [tx x.name,num x.age,.list 3 (x.targets.map j4)]
@[simp] theorem rvGroup_len (x:LGroup):(I8 x).cells.length=3:=rfl
def l4 (x:LRule):RV:=.agg [tx x.name,.list 1 (x.words.map tx)]
@[simp] theorem rvRule_len (x:LRule):(l4 x).cells.length=2:=rfl
def l8 (x:LPolicy):RV:=.agg [tx x.reportTo,.list 1 (x.uris.map tx),.list 2 (x.rules.map l4)]
@[simp] theorem rvPolicy_len (x:LPolicy):(l8 x).cells.length=3:=rfl
def b7b (x:LViolation):RV:=.agg [tx x.document,tx x.referrer,tx x.blocked,tx x.source,tx x.directive,tx x.sample,num x.line,num x.column,.bool x.redirected]
@[simp] theorem c5f (x:LViolation):(b7b x).cells.length=9:=rfl
def j8 (x:LReport):RV:=.agg [num x.id,num x.born,num x.tries,tx x.body]
@[simp] theorem rvReport_len (x:LReport):(j8 x).cells.length=4:=rfl
def C3 (x:LQueue):RV:=.agg [.list 4 (x.items.map j8),.list 1 (x.recent.map tx)]
@[simp] theorem rvQueue_len (x:LQueue):(C3 x).cells.length=2:=rfl
def j5 (x:LChannel):RV:=.agg [tx x.group.name,num x.group.age,.list 3 (x.group.targets.map j4),.list 6 (x.peers.map C6),.list 4 (x.queue.items.map j8),.list 1 (x.queue.recent.map tx)]
@[simp] theorem rvChannel_len (x:LChannel):(j5 x).cells.length=6:=rfl
def J0 (x:LEntry):RV:=.agg [num x.kind,num x.id,num x.at_]
@[simp] theorem rvEntry_len (x:LEntry):(J0 x).cells.length=3:=rfl
def p8 (x:LWire):RV:=.agg [num x.at_,num x.status,tx x.group,tx x.url,.list 1 (x.ids.map num),tx x.body,.bool x.lost]
@[simp] theorem rvWire_len (x:LWire):(p8 x).cells.length=7:=rfl
def C5 (x:LPipe):RV:=.agg [.list 6 (x.channels.map j5),tx x.policy.reportTo,.list 1 (x.policy.uris.map tx),.list 2 (x.policy.rules.map l4),num x.now,num x.next,.list 3 (x.log.map J0),.list 7 (x.wires.map p8)]
@[simp] theorem rvPipe_len (x:LPipe):(C5 x).cells.length=8:=rfl
def rvEvent (x:LEvent):RV:=.agg [num x.kind,num x.draw,num x.status,num x.ticks,tx x.text,tx x.name,tx x.violation.document,tx x.violation.referrer,tx x.violation.blocked,tx x.violation.source,tx x.violation.directive,tx x.violation.sample,num x.violation.line,num x.violation.column,.bool x.violation.redirected,.bool x.lost]
@[simp] theorem rvEvent_len (x:LEvent):(rvEvent x).cells.length=16:=rfl
def c5v (x:LParcel):RV:=.agg [num x.id,num x.age,tx x.body]
@[simp] theorem rvParcel_len (x:LParcel):(c5v x).cells.length=3:=rfl
def rvBox (x:LBox):RV:=.agg [.list 1 (x.ids.map num),.list 1 (x.times.map num),.list 1 (x.bodies.map tx)]
@[simp] theorem rvBox_len (x:LBox):(rvBox x).cells.length=3:=rfl
end Go.PW
end
section
namespace Go.KP
end Go.KP
end
section
namespace Go.KP
end Go.KP
end
