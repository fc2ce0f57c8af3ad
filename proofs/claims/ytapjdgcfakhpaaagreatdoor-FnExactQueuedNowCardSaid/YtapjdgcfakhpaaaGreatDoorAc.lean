/- Ac: merged out of KPa, KPb, KPc, KPd, KPe, KPf, KPg, KPh, KPi, KPj, KPk, KPl, KPm, KPn, KQa, KRa, KLa, KRb, KRc, KPt, KPu, KPv. -/
import Derived.Test.YtapjdgcfakhpaaaGreatDoorPWv
set_option linter.unusedSectionVars false
set_option linter.unusedSimpArgs false
set_option linter.unusedVariables false
section
namespace Go.KP
abbrev Tx:=List UInt8
def P4 (c:UInt8):Bool:=decide (97≤c.toNat∧c.toNat≤122)
def P2 (c:UInt8):Bool:=decide (48≤c.toNat∧c.toNat≤57)
def c1b (c:UInt8):UInt8:=if 65≤c.toNat∧c.toNat≤90 then c+32 else c
def R4 (t:Tx):Tx:=t.map c1b
def M8 (t:Tx) (c:UInt8):Nat:=t.findIdx (· == c)
def X7 (t wo:Tx):Bool:=t.all fun c=>decide (33≤c.toNat∧c.toNat≤126) && !decide (c∈wo)
def a7e:Tx:=[104,116,116,112]
def a91:Tx:=[104,116,116,112,115]
def a0o (s:Tx):Bool:=s == a7e || s == a91
def W5 (c:UInt8):Bool:=P4 c || P2 c || decide (c.toNat=45∨c.toNat=43∨c.toNat=46)
def a4l (t:Tx):Bool:=(t.take 1).all P4 && t.all W5
def V8 (t:Tx):Bool:=decide (1≤t.length∧t.length≤12) && a4l t
def U2:Bool→Tx→Bool
 | last,[]=>!last
 | last,c :: r=>if !(P4 c || P2 c) && (last || !decide (c.toNat=45∨c.toNat=46)) then false else U2 (!(P4 c || P2 c)) r
def a17 (t:Tx):Bool:=U2 true t
def a0s (s:Tx):Int:=if s=a7e then 80 else 443
def a22 (n:Nat):Tx:=if h:n < 10 then [UInt8.ofNat (48+n)] else a22 (n / 10)++[UInt8.ofNat (48+n % 10)]
termination_by n
decreasing_by omega
theorem c1f (t:Tx) (c:UInt8) (i:Nat) (hi:i≤t.length) (h:∀ k,k < i→t.getD k 0≠c) (h':i=t.length∨t.getD i 0=c):M8 t c=i:=by
 unfold M8
 by_cases hl:i < t.length
 · rw [List.findIdx_eq hl]
   refine ⟨?_,fun j hj=>?_⟩
   · rcases h' with h' | h'
     · omega
     · simpa [List.getD_eq_getElem?_getD,List.getElem?_eq_getElem hl] using h'
   · have:=h j hj
     have hjl:j < t.length:=by omega
     simpa [List.getD_eq_getElem?_getD,List.getElem?_eq_getElem hjl] using this
 · have e:i=t.length:=by omega
   subst e
   rw [List.findIdx_eq_length]
   intro x hx
   obtain ⟨j,hj,rfl⟩:=List.getElem_of_mem hx
   have:=h j hj
   simpa [List.getD_eq_getElem?_getD,List.getElem?_eq_getElem hj] using this
theorem a08 (t:Tx) (c:UInt8):M8 t c≤t.length:=List.findIdx_le_length
theorem W3 {t:Tx} {c:UInt8}:M8 t c < t.length↔c∈t:=by
 unfold M8
 rw [List.findIdx_lt_length]
 constructor
 · rintro ⟨x,hx,h⟩;have:x=c:=by simpa using h
   exact this ▸ hx
 · intro h;exact ⟨c,h,by simp⟩
theorem a4t {α:Type} (t:List α) (i:Nat) (d:α) (h:i < t.length):t.getD i d=t[i]:=by simp [List.getD_eq_getElem?_getD,List.getElem?_eq_getElem h]
theorem b7g {α:Type} (t:List α) (i:Nat) (d:α) (h:i < t.length):t.take (i+1)=t.take i++[t.getD i d]:=by
 rw [List.take_add_one,List.getElem?_eq_getElem h,a4t t i d h];rfl
theorem a10 {n:Nat} (h:n < 10):a22 n=[UInt8.ofNat (48+n)]:=by rw [a22];simp [h]
theorem a4r {n:Nat} (h:¬ n < 10):a22 n=a22 (n / 10)++[UInt8.ofNat (48+n % 10)]:=by rw [a22];simp [h]
theorem d0j (n:Nat):(a22 n).length≤n+1:=by
 induction n using Nat.strongRecOn with
 | ind n ih=>
  by_cases h:n < 10
  · rw [a10 h];simp
  · rw [a4r h]
    have:=ih (n / 10) (by omega)
    simp;omega
theorem a44:∀ (k n:Nat),n < 10 ^ (k+1)→(a22 n).length≤k+1
 | 0,n,h=>by rw [a10 (by simpa using h)];simp
 | k+1,n,h=>by
  by_cases hn:n < 10
  · rw [a10 hn];simp
  · rw [a4r hn]
    have:=a44 k (n / 10) (by rw [Nat.div_lt_iff_lt_mul (by omega)];rw [Nat.pow_succ] at h;exact h)
    simp;omega
def a6f (n:Int):Tx:=if n < 0 then 45 :: a22 (-n).toNat else a22 n.toNat
def V4 (t:Tx):Nat:=t.foldl (fun n c=>n*10+(c.toNat - 48)) 0
def a3u (neg:Bool) (t:Tx):Bool:=decide (t.length=0∨18 < t.length) || (decide ((t.getD 0 0).toNat=48) && (decide (1 < t.length) || neg))
def a16 (neg:Bool) (t:Tx):Option Int:=if a3u neg t then none else if t.all P2 then some (if neg then - (V4 t:Int) else (V4 t:Int)) else none
def W8 (t:Tx):Option Int:=match t with
 | []=>none
 | c :: r=>if c=45 then a16 true r else a16 false (c :: r)
theorem a89 (t:Tx) (c:UInt8):V4 (t++[c])=V4 t*10+(c.toNat - 48):=by simp [V4]
theorem b30 (t:Tx) (h:t.all P2=true):V4 t < 10 ^ t.length:=by
 have key:∀ (k:Nat) (t:Tx),t.length=k→t.all P2=true→V4 t < 10 ^ t.length:=by
  intro k
  induction k with
  | zero=>intro t ht _;have:t=[]:=List.eq_nil_of_length_eq_zero ht;subst this;decide
  | succ k ih=>
   intro t ht ha
   obtain ⟨r,c,rfl⟩:∃ r c,t=r++[c]:=⟨t.dropLast,t.getLast (by intro e;subst e;simp at ht),(List.dropLast_concat_getLast _).symm⟩
   simp only [List.all_append,Bool.and_eq_true] at ha
   have h1:=ih r (by simpa using ht) ha.1
   have h2:P2 c=true:=by simpa using ha.2
   simp [P2] at h2
   rw [a89]
   simp only [List.length_append,List.length_singleton,Nat.pow_succ]
   omega
 exact key t.length t rfl h
theorem R9 {α:Type} (t:List α) (p:α→Bool) (i:Nat) (h:i < t.length):(t.take (i+1)).all p=((t.take i).all p && p t[i]):=by
 rw [List.take_add_one,List.getElem?_eq_getElem h,List.all_append];simp
theorem b2w (t:Tx) (i:Nat) (h:i < t.length):a4l (t.take (i+1))=(a4l (t.take i) && (if i=0 then P4 t[i] else W5 t[i])):=by
 unfold a4l
 rw [R9 t _ i h]
 by_cases hi:i=0
 · subst hi
   have:(t.take (0+1)).take 1=[t[0]]:=by
    cases t with
    | nil=>simp at h
    | cons c r=>simp
   rw [this]
   simp [W5]
   cases P4 t[0]<;>simp
 · have e1:(t.take (i+1)).take 1=t.take 1:=by rw [List.take_take,Nat.min_eq_left (by omega)]
   have e2:(t.take i).take 1=t.take 1:=by rw [List.take_take,Nat.min_eq_left (by omega)]
   rw [e1,e2]
   simp [hi,Bool.and_assoc]
theorem b0u (t:Tx) (i:Nat) (h:i < t.length) (hb:(if i=0 then P4 t[i] else W5 t[i])=false):a4l t=false:=by
 unfold a4l
 by_cases hi:i=0
 · subst hi
   rw [if_pos rfl] at hb
   cases t with
   | nil=>simp at h
   | cons c r=>simp at hb;simp [hb]
 · rw [if_neg hi] at hb
   have:t.all W5=false:=by rw [List.all_eq_false];exact ⟨t[i],List.getElem_mem h,by simp [hb]⟩
   simp [this]
structure LUrl where
 scheme:Tx
 user:Tx
 host:Tx
 port:Int
 path:Tx
 query:Tx
 frag:Tx
 hasQ:Bool
 hasF:Bool
def LUrl.Small (u:LUrl):Prop:=u.scheme.length < 1099511627776∧u.user.length < 1099511627776∧u.host.length < 1099511627776∧u.path.length < 1099511627776∧u.query.length < 1099511627776∧u.frag.length < 1099511627776∧u.port≤9223372036854775807
def a19 (p:Int):Tx:=if 0 < p then 58 :: a22 p.toNat else []
theorem c3n (p:Int) (h:p≤9223372036854775807):(a19 p).length≤20:=by
 unfold a19
 split
 · have:=a44 18 p.toNat (by omega)
   simp;omega
 · simp
def c6d (u:LUrl):Tx:=u.scheme++[58,47,47]++u.host++a19 u.port
def X6 (u:LUrl):Tx:=
 if a0o u.scheme then
  u.scheme++[58,47,47]++(if u.user=[] then [] else u.user++[64])++(u.host++a19 u.port++u.path)++(if u.hasQ then 63 :: u.query else [])++(if u.hasF then 35 :: u.frag else [])
 else u.scheme++[58]++u.path
def S0 (u:LUrl):Bool:=
 V8 u.scheme && (u.hasQ || decide (u.query=[])) && (u.hasF || decide (u.frag=[])) && X7 u.path [63,35] && X7 u.query [35] && X7 u.frag [] && decide ((X6 u).length≤100) &&
 (if a0o u.scheme then X7 u.user [47,63,35,64] && a17 u.host && decide (0≤u.port∧u.port≤65535) && decide (u.port≠a0s u.scheme) && decide (0 < u.path.length) && decide ((u.path.getD 0 0).toNat=47)
  else decide (u.user=[]) && decide (u.host=[]) && decide (u.port=0) && !u.hasQ && !u.hasF)
end Go.KP
end
section
namespace Go.KP
def j9 (t:Tx) (c:UInt8):Tx:=t.take (M8 t c)
def G4 (t:Tx) (c:UInt8):Tx:=t.drop (M8 t c+1)
theorem a1m {t:Tx} {c:UInt8} (h:c∉t):j9 t c=t:=by
 unfold j9
 have h1:=a08 t c
 have h2:¬ M8 t c < t.length:=fun h'=>h (W3.1 h')
 rw [show M8 t c=t.length by omega,List.take_length]
theorem a96 {t:Tx} {c:UInt8} (h:c∉t):G4 t c=[]:=by
 unfold G4
 have h2:¬ M8 t c < t.length:=fun h'=>h (W3.1 h')
 exact List.drop_eq_nil_of_le (by omega)
theorem R8 (t:Tx) (c:UInt8):(j9 t c).length≤t.length:=by unfold j9;simp;omega
theorem Z6 (t:Tx) (c:UInt8):(G4 t c).length≤t.length:=by unfold G4;simp
def LUrl.zero:LUrl:=⟨[],[],[],0,[],[],[],false,false⟩
def a2g (sc r:Tx):Option Int:=
 if 58∈r then
  match W8 (G4 r 58) with
  | some n=>if 1≤n∧n≤65535 then some (if n=a0s sc then 0 else n) else none
  | none=>none
 else some 0
def a5m (sc r0:Tx):LUrl×Bool:=
 let r1:=j9 r0 35
 let r2:=j9 r1 63
 let r3:=j9 r2 47
 let r4:=if 64∈r3 then G4 r3 64 else r3
 match a2g sc r4 with
 | none=>(LUrl.zero,false)
 | some p=>
  let u:LUrl:=⟨sc,if 64∈r3 then j9 r3 64 else [],R4 (j9 r4 58),p,if 47∈r2 then r2.drop (M8 r2 47) else [47],G4 r1 63,G4 r0 35,decide (63∈r1),decide (35∈r0)⟩
  (u,S0 u)
def H8 (t:Tx):LUrl×Bool:=
 if 58∈t then
  let sc:=R4 (j9 t 58)
  let rest:=G4 t 58
  if a0o sc then
   if rest.take 2=[47,47] then a5m sc (rest.drop 2) else (LUrl.zero,false)
  else
   let u:LUrl:=⟨sc,[],[],0,j9 (j9 rest 35) 63,[],[],false,false⟩
   (u,S0 u)
 else (LUrl.zero,false)
structure LTarget where
 url:Tx
 prio:Int
 weight:Int
 deriving DecidableEq
structure LPeer where
 target:LTarget
 fails:Int
 retry:Int
 gone:Bool
 deriving DecidableEq
def P6 (x:LTarget):Bool:=
 (H8 x.url).2 && a0o (H8 x.url).1.scheme && !(H8 x.url).1.hasF && decide (X6 (H8 x.url).1=x.url) && decide (1≤x.prio∧x.prio≤9) && decide (1≤x.weight∧x.weight≤9)
def a4q (x:LPeer):Bool:=
 P6 x.target && decide (0≤x.fails∧x.fails≤1000000) && decide (0≤x.retry∧x.retry≤1000032) && !(decide (x.fails=0) && decide (x.retry≠0))
def T4:List Tx→List LPeer→Bool
 | _,[]=>true
 | seen,p :: r=>decide (p.target.url∉seen) && T4 (seen++[p.target.url]) r
def a0d (l:List LPeer):Bool:=decide (l.length≤4) && l.all a4q && T4 [] l
end Go.KP
end
section
namespace Go.KP
def T7 (t:Tx):Bool:=t.all fun c=>decide (33≤c.toNat∧c.toNat≤126)
def R7 (t wo:Tx):Bool:=t.any fun c=>decide (c∈wo)
theorem d0f (t wo:Tx):X7 t wo=(T7 t && !R7 t wo):=by
 unfold X7 T7 R7
 induction t with
 | nil=>rfl
 | cons c r ih=>
  simp only [List.all_cons,List.any_cons,ih]
  cases decide (33≤c.toNat∧c.toNat≤126)<;>cases decide (c∈wo)<;>simp
theorem c7o (t:Tx):X7 t []=T7 t:=by simp [X7,T7]
theorem a9o (a b:Tx):T7 (a++b)=(T7 a && T7 b):=by simp [T7]
theorem a7g:∀ (t:Tx) (last:Bool),U2 last t=true→T7 t=true
 | [],_,_=>rfl
 | c :: r,last,h=>by
  simp only [U2] at h
  split at h
  · cases h
  · rename_i hc
    have ih:=a7g r _ h
    have hh:T7 (c :: r)=(decide (33≤c.toNat∧c.toNat≤126) && T7 r):=rfl
    rw [hh,ih]
    simp [P4,P2] at hc ⊢
    omega
theorem c1e {t:Tx} (h:a17 t=true):T7 t=true:=a7g t _ h
def a3f (p:Int):Tx:=if p=0 then [] else 58 :: a6f p
def a3e (u:LUrl):Tx:=
 if a0o u.scheme then
  u.scheme++[58,47,47]++(if u.user=[] then [] else u.user++[64])++u.host++a3f u.port++u.path++(if u.hasQ then 63 :: u.query else [])++(if u.hasF then 35 :: u.frag else [])
 else u.scheme++[58]++u.path
theorem a71 {u:LUrl} (h:0≤u.port):a3e u=X6 u:=by
 unfold a3e X6
 split
 · have:a3f u.port=a19 u.port:=by
    unfold a3f a19 a6f
    by_cases h0:u.port=0
    · simp [h0]
    · have g1:0 < u.port:=by omega
      have g2:¬ u.port < 0:=by omega
      simp only [h0,g1,g2,if_true,if_false]
   rw [this];simp
 · rfl
def b2a (u:LUrl):Bool:=
 V8 u.scheme && decide (u.user.length+u.host.length+u.path.length+u.query.length+u.frag.length≤100) && decide ((a3e u).length≤100) && T7 (u.user++u.host++u.path++u.query++u.frag) && !R7 u.path [63,35] &&
 (if a0o u.scheme then !R7 u.user [47,63,35,64] && a17 u.host && decide (0≤u.port∧u.port≤65535) && decide (u.port≠a0s u.scheme) && decide (0 < u.path.length) && decide ((u.path.getD 0 0).toNat=47) && !R7 u.query [35] && (u.hasQ || decide (u.query=[])) && (u.hasF || decide (u.frag=[]))
  else decide (u.user=[]) && decide (u.host=[]) && decide (u.port=0) && decide (u.query=[]) && decide (u.frag=[]) && !u.hasQ && !u.hasF)
theorem c7t (u:LUrl):b2a u=S0 u:=by
 by_cases hp:0≤u.port
 · unfold b2a S0
   rw [a71 hp]
   simp only [d0f,c7o,a9o]
   by_cases hw:a0o u.scheme=true
   · rw [if_pos hw,if_pos hw]
     rw [Bool.eq_iff_iff]
     have hl:(X6 u).length=u.scheme.length+3+(if u.user=[] then 0 else u.user.length+1)+(u.host.length+(a19 u.port).length+u.path.length)+(if u.hasQ then u.query.length+1 else 0)+(if u.hasF then u.frag.length+1 else 0):=by
      unfold X6
      rw [if_pos hw]
      simp only [List.length_append]
      congr 1
      · congr 1
        · congr 1
          congr 1
          split<;>simp
        · split<;>simp
      · split<;>simp
     constructor
     · intro h
       simp only [Bool.and_eq_true,Bool.or_eq_true,decide_eq_true_eq,Bool.not_eq_true'] at h ⊢
       obtain ⟨⟨⟨⟨⟨h1,h2⟩,h3⟩,h4⟩,h5⟩,h6⟩:=h
       obtain ⟨⟨⟨⟨⟨⟨⟨⟨a1,a2⟩,a3⟩,a4⟩,a5⟩,a6⟩,a7⟩,a8⟩,a9⟩:=h6
       obtain ⟨⟨⟨⟨b1,b2⟩,b3⟩,b4⟩,b5⟩:=h4
       exact ⟨⟨⟨⟨⟨⟨⟨h1,a8⟩,a9⟩,b3,h5⟩,b4,a7⟩,b5,by simp [R7]⟩,h3⟩,⟨⟨⟨⟨⟨b1,a1⟩,a2⟩,a3⟩,a4⟩,a5⟩,a6⟩
     · intro h
       simp only [Bool.and_eq_true,Bool.or_eq_true,decide_eq_true_eq,Bool.not_eq_true'] at h ⊢
       obtain ⟨⟨⟨⟨⟨⟨⟨c1,c2⟩,c3⟩,c4⟩,c5⟩,c6⟩,c7⟩,c8⟩:=h
       obtain ⟨⟨⟨⟨⟨d1,d2⟩,d3⟩,d4⟩,d5⟩,d6⟩:=c8
       have e:=c1e d2
       refine ⟨⟨⟨⟨⟨c1,?_⟩,c7⟩,?_⟩,c4.2⟩,⟨⟨⟨⟨⟨⟨⟨⟨d1.2,d2⟩,d3⟩,d4⟩,d5⟩,d6⟩,c5.2⟩,c2⟩,c3⟩⟩
       · have q1:u.query.length≤(if u.hasQ then u.query.length+1 else 0):=by
          rcases c2 with h | h
          · rw [h];simp
          · rw [h];simp
         have q2:u.frag.length≤(if u.hasF then u.frag.length+1 else 0):=by
          rcases c3 with h | h
          · rw [h];simp
          · rw [h];simp
         have q3:u.user.length≤(if u.user=[] then 0 else u.user.length+1):=by
          split
          · rename_i h;rw [h];simp
          · omega
         omega
       · exact ⟨⟨⟨⟨d1.1,e⟩,c4.1⟩,c5.1⟩,c6.1⟩
   · rw [if_neg hw,if_neg hw]
     rw [Bool.eq_iff_iff]
     have hl:(X6 u).length=u.scheme.length+1+u.path.length:=by
      unfold X6
      rw [if_neg hw]
      simp;omega
     constructor
     · intro h
       simp only [Bool.and_eq_true,Bool.or_eq_true,decide_eq_true_eq,Bool.not_eq_true'] at h ⊢
       obtain ⟨⟨⟨⟨⟨h1,h2⟩,h3⟩,h4⟩,h5⟩,⟨⟨⟨⟨⟨⟨a1,a2⟩,a3⟩,a4⟩,a5⟩,a6⟩,a7⟩⟩:=h
       obtain ⟨⟨⟨⟨b1,b2⟩,b3⟩,b4⟩,b5⟩:=h4
       have e:R7 u.frag []=false:=by simp [R7]
       have e2:R7 u.query [35]=false:=by rw [a4];rfl
       refine ⟨⟨⟨⟨⟨⟨⟨h1,.inr a4⟩,.inr a5⟩,b3,h5⟩,b4,e2⟩,b5,by simp [R7]⟩,h3⟩,⟨⟨⟨⟨a1,a2⟩,a3⟩,a6⟩,a7⟩⟩
     · intro h
       simp only [Bool.and_eq_true,Bool.or_eq_true,decide_eq_true_eq,Bool.not_eq_true'] at h ⊢
       obtain ⟨⟨⟨⟨⟨⟨⟨c1,c2⟩,c3⟩,c4⟩,c5⟩,c6⟩,c7⟩,⟨⟨⟨⟨d1,d2⟩,d3⟩,d4⟩,d5⟩⟩:=h
       have q:u.query=[]:=by rcases c2 with h | h;(rw [d4] at h;cases h);exact h
       have f:u.frag=[]:=by rcases c3 with h | h;(rw [d5] at h;cases h);exact h
       refine ⟨⟨⟨⟨⟨c1,?_⟩,c7⟩,?_⟩,c4.2⟩,⟨⟨⟨⟨⟨⟨d1,d2⟩,d3⟩,q⟩,f⟩,d4⟩,d5⟩⟩
       · simp [d1,d2,q,f];omega
       · refine ⟨⟨⟨⟨?_,?_⟩,c4.1⟩,c5.1⟩,c6.1⟩<;>simp [d1,d2,T7]
 · have e1:b2a u=false:=by
    unfold b2a
    have h1:decide (0≤u.port∧u.port≤65535)=false:=by simp;omega
    have h2:decide (u.port=0)=false:=by simp;omega
    simp [h1,h2]
   have e2:S0 u=false:=by
    unfold S0
    have h1:decide (0≤u.port∧u.port≤65535)=false:=by simp;omega
    have h2:decide (u.port=0)=false:=by simp;omega
    simp [h1,h2]
   rw [e1,e2]
end Go.KP
end
section
namespace Go.KP
theorem a9a {t:Tx} (h:(H8 t).2=true):S0 (H8 t).1=true:=by
 unfold H8 a5m at h ⊢
 split at h
 · rename_i h1
   rw [if_pos h1]
   dsimp only at h ⊢
   split at h
   · rename_i h2
     rw [if_pos h2]
     split at h
     · rename_i h3
       rw [if_pos h3]
       split at h
       · cases h
       · exact h
     · cases h
   · rename_i h2
     rw [if_neg h2]
     exact h
 · cases h
theorem a7z {u:LUrl} (h:S0 u=true):0≤u.port:=by
 unfold S0 at h
 simp only [Bool.and_eq_true] at h
 obtain ⟨_,h⟩:=h
 split at h
 · simp only [Bool.and_eq_true,decide_eq_true_eq] at h
   exact h.1.1.1.2.1
 · simp only [Bool.and_eq_true,decide_eq_true_eq] at h
   omega
theorem b22 {u:LUrl} (h:S0 u=true) (hf:u.hasF=false):u.frag=[]:=by
 unfold S0 at h
 simp only [Bool.and_eq_true,Bool.or_eq_true,decide_eq_true_eq,hf] at h
 rcases h.1.1.1.1.1.2 with h | h
 · cases h
 · exact h
theorem b46 {u:LUrl} (h:S0 u=true):(X6 u).length≤100:=by
 unfold S0 at h
 simp only [Bool.and_eq_true,decide_eq_true_eq] at h
 exact h.1.2
theorem c7s {t:Tx} {c x:UInt8} (h:x∈G4 t c):x∈t:=List.mem_of_mem_drop h
theorem c09 {t:Tx} (h:(H8 t).1.hasF=true):35∈t:=by
 unfold H8 a5m at h
 split at h
 · dsimp only at h
   split at h
   · split at h
     · split at h
       · cases h
       · simp only [decide_eq_true_eq] at h
         exact c7s (List.mem_of_mem_drop h)
     · cases h
   · cases h
 · cases h
theorem b1e:∀ (n:Nat),(a22 n).all P2=true:=by
 intro n
 induction n using Nat.strongRecOn with
 | ind n ih=>
  by_cases h:n < 10
  · rw [a10 h]
    simp [P2]
    omega
  · rw [a4r h,List.all_append,ih (n / 10) (by omega)]
    simp [P2]
    omega
theorem b17 {t wo:Tx} {c:UInt8} (h:X7 t wo=true) (hc:c∈wo):c∉t:=by
 intro hm
 unfold X7 at h
 rw [List.all_eq_true] at h
 have:=h c hm
 simp [hc] at this
theorem b25:∀ (t:Tx) (last:Bool),U2 last t=true→35∉t
 | [],_,_=>by simp
 | c :: r,last,h=>by
  simp only [U2] at h
  split at h
  · cases h
  · rename_i hc
    have ih:=b25 r _ h
    intro hm
    rcases List.mem_cons.1 hm with e | e
    · subst e;apply hc;simp [P4,P2]
    · exact ih e
theorem c33 {s:Tx} (h:a0o s=true):35∉s:=by
 simp [a0o] at h
 rcases h with h | h<;>subst h<;>decide
def a2r (t:Tx):Option Tx:=
 if t.length≤65536 then
  if (H8 t).2 && a0o (H8 t).1.scheme then some (a3e { (H8 t).1 with frag:=[],hasF:=false }) else none
 else none
theorem c7w (t:Tx):decide (a2r t=some t)=((H8 t).2 && a0o (H8 t).1.scheme && !(H8 t).1.hasF && decide (X6 (H8 t).1=t)):=by
 rw [Bool.eq_iff_iff]
 simp only [decide_eq_true_eq,Bool.and_eq_true,Bool.not_eq_true']
 unfold a2r
 constructor
 · intro h
   split at h
   · split at h
     · rename_i h1 h2
       simp only [Bool.and_eq_true] at h2
       simp only [Option.some.injEq] at h
       have hok:=a9a h2.1
       have hp:=a7z hok
       cases hf:(H8 t).1.hasF with
       | true=>
        exfalso
        have h35:=c09 hf
        rw [a71 (by exact hp)] at h
        have hn:35∉X6 { (H8 t).1 with frag:=[],hasF:=false }:=by
         have hok2:=hok
         unfold S0 at hok2
         simp only [Bool.and_eq_true,Bool.or_eq_true,decide_eq_true_eq,h2.2,if_true] at hok2
         obtain ⟨⟨⟨⟨⟨⟨⟨c1,c2⟩,c3⟩,c4⟩,c5⟩,c6⟩,c7⟩,⟨⟨⟨⟨⟨d1,d2⟩,d3⟩,d4⟩,d5⟩,d6⟩⟩:=hok2
         have e1:=b17 (c:=35) c4 (by simp)
         have e2:=b17 (c:=35) c5 (by simp)
         have e3:=b17 (c:=35) d1 (by simp)
         have e4:=b25 _ _ d2
         have e5:=c33 h2.2
         have e6:35∉a22 (H8 t).1.port.toNat:=fun hm=>by
          have:=b1e (H8 t).1.port.toNat
          rw [List.all_eq_true] at this
          have:=this 35 hm
          simp [P2] at this
         unfold X6 a19
         rw [if_pos h2.2]
         dsimp only
         intro hm
         simp only [List.mem_append] at hm
         rcases hm with (((hm | hm) | hm) | hm) | hm
         · rcases hm with hm | hm
           · exact e5 hm
           · simp at hm
         · split at hm
           · simp at hm
           · simp at hm;exact e3 hm
         · rcases hm with (hm | hm) | hm
           · exact e4 hm
           · split at hm
             · simp at hm;exact e6 hm
             · simp at hm
           · exact e1 hm
         · split at hm
           · simp at hm;exact e2 hm
           · simp at hm
         · simp at hm
        rw [h] at hn
        exact hn h35
       | false=>
        have hfr:=b22 hok hf
        have e:{ (H8 t).1 with frag:=[],hasF:=false }=(H8 t).1:=by
         rw [← hfr,← hf]
        rw [e,a71 hp] at h
        exact ⟨⟨h2,rfl⟩,h⟩
     · cases h
   · cases h
 · rintro ⟨⟨⟨h1,h2⟩,hf⟩,h⟩
   have hok:=a9a h1
   have hfr:=b22 hok hf
   have hl:=b46 hok
   rw [h] at hl
   rw [if_pos (by omega),h1,h2]
   have e:{ (H8 t).1 with frag:=[],hasF:=false }=(H8 t).1:=by
    rw [← hfr,← hf]
   rw [e,a71 (a7z hok),h]
   rfl
theorem b9a (x:LTarget):(decide (a2r x.url=some x.url) && decide (1≤x.prio∧x.prio≤9) && decide (1≤x.weight∧x.weight≤9))=P6 x:=by
 rw [c7w];rfl
end Go.KP
end
section
namespace Go.KP
theorem b8a (k:Nat) (h:k < 10):(UInt8.ofNat (48+k)).toNat=48+k:=by
 rw [UInt8.toNat_ofNat'];omega
theorem b7t (n:Nat):V4 (a22 n)=n:=by
 induction n using Nat.strongRecOn with
 | ind n ih=>
  by_cases h:n < 10
  · rw [a10 h]
    have:=b8a n h
    simp only [V4,List.foldl_cons,List.foldl_nil,this];omega
  · rw [a4r h,a89,ih (n / 10) (by omega),b8a _ (by omega)]
    omega
theorem b85 (n:Nat):a22 n≠[]:=by
 by_cases h:n < 10
 · rw [a10 h];simp
 · rw [a4r h];simp
theorem c7r (n:Nat) (h0:n≠0):((a22 n).getD 0 0).toNat≠48:=by
 induction n using Nat.strongRecOn with
 | ind n ih=>
  by_cases h:n < 10
  · rw [a10 h]
    have:=b8a n h
    simp only [List.getD_cons_zero,this];omega
  · rw [a4r h]
    have h1:=ih (n / 10) (by omega) (by omega)
    cases hl:a22 (n / 10) with
    | nil=>exact absurd hl (b85 _)
    | cons c r=>rw [hl] at h1;simpa using h1
theorem b28 {c:UInt8} (h:P2 c=true):UInt8.ofNat (48+(c.toNat - 48))=c:=by
 simp only [P2,decide_eq_true_eq] at h
 apply UInt8.toNat_inj.1
 rw [b8a _ (by omega)];omega
theorem c7q:∀ (k:Nat) (t:Tx),t.length=k→t≠[]→t.all P2=true→((t.getD 0 0).toNat=48→t.length=1)→a22 (V4 t)=t:=by
 intro k
 induction k with
 | zero=>intro t ht h;exact absurd (List.eq_nil_of_length_eq_zero ht) h
 | succ k ih=>
  intro t ht hne ha hz
  obtain ⟨r,c,rfl⟩:∃ r c,t=r++[c]:=⟨t.dropLast,t.getLast hne,(List.dropLast_concat_getLast _).symm⟩
  simp only [List.all_append,Bool.and_eq_true] at ha
  have hc:P2 c=true:=by simpa using ha.2
  have hc':=hc
  simp only [P2,decide_eq_true_eq] at hc'
  rw [a89]
  cases r with
  | nil=>
   rw [show V4 []*10+(c.toNat - 48)=c.toNat - 48 by simp [V4]]
   rw [a10 (by omega),b28 hc];rfl
  | cons d r=>
   have hd:d.toNat≠48:=fun e=>by
    have:=hz (by simpa using e)
    simp at this
   have hi:=ih (d :: r) (by simpa using ht) (by simp) ha.1 (fun e=>absurd (by simpa using e) hd)
   have hpos:V4 (d :: r)≠0:=fun e=>by
    rw [e,a10 (by omega)] at hi
    have h2:UInt8.ofNat 48=d:=by simpa using (List.cons.inj hi).1
    exact hd (by rw [← h2];rfl)
   rw [a4r (by omega)]
   have e1:(V4 (d :: r)*10+(c.toNat - 48)) / 10=V4 (d :: r):=by omega
   have e2:(V4 (d :: r)*10+(c.toNat - 48)) % 10=c.toNat - 48:=by omega
   rw [e1,e2,hi,b28 hc]
def a0b (t:Tx):Nat:=match t with
 | []=>0
 | c :: r=>if c=45 then r.length else (c :: r).length
theorem b20 (neg:Bool) (n:Nat) (h18:(a22 n).length≤18) (hn:neg=true→n≠0):a3u neg (a22 n)=false:=by
 unfold a3u
 have h1:(a22 n).length≠0:=fun e=>b85 n (List.eq_nil_of_length_eq_zero e)
 by_cases h0:n=0
 · subst h0
   cases neg with
   | true=>exact absurd rfl (hn rfl)
   | false=>rw [a10 (by omega)];simp
 · have h2:=c7r n h0
   have e1:decide ((a22 n).length=0∨18 < (a22 n).length)=false:=by simp only [decide_eq_false_iff_not];omega
   have e2:decide (((a22 n).getD 0 0).toNat=48)=false:=by simp only [decide_eq_false_iff_not];exact h2
   rw [e1,e2];rfl
theorem b83 (n:Int) (h:a0b (a6f n)≤18):W8 (a6f n)=some n:=by
 unfold a6f at h ⊢
 by_cases h0:n < 0
 · rw [if_pos h0] at h ⊢
   have h':(a22 (-n).toNat).length≤18:=by simpa [a0b] using h
   simp only [W8,if_true,a16]
   rw [b20 true _ h' (fun _=>by omega),if_neg (by simp),if_pos (b1e _),b7t]
   simp;omega
 · rw [if_neg h0] at h ⊢
   cases hl:a22 n.toNat with
   | nil=>exact absurd hl (b85 _)
   | cons c r=>
    have hd:=b1e n.toNat
    rw [hl] at hd h
    have hc:c≠45:=fun e=>by subst e;simp [P2] at hd
    have h':(a22 n.toNat).length≤18:=by rw [hl];simpa [a0b,hc] using h
    simp only [W8,hc,if_false]
    rw [← hl]
    simp only [a16]
    rw [b20 false _ h' (fun e=>by cases e),if_neg (by simp),if_pos (b1e _),b7t]
    simp;omega
theorem a60 {t:Tx} {n:Int} (h:W8 t=some n):a6f n=t∧a0b t≤18 ∧
 ∃ u:Tx,u≠[]∧u.all P2=true∧u.length≤18∧((t=45 :: u∧n=-(V4 u:Int))∨(t=u∧n=V4 u)):=by
 have key:∀ (neg:Bool) (u:Tx),a16 neg u=some n→u≠[]∧u.length≤18∧u.all P2=true∧a22 (V4 u)=u∧(neg=true→V4 u≠0)∧n=(if neg then - (V4 u:Int) else (V4 u:Int)):=by
  intro neg u hu
  unfold a16 at hu
  split at hu
  · cases hu
  · rename_i hb
    split at hu
    · rename_i ha
      have hn:=(Option.some.inj hu).symm
      have hb':a3u neg u=false:=by simpa using hb
      unfold a3u at hb'
      rw [Bool.or_eq_false_iff] at hb'
      obtain ⟨q1,q2⟩:=hb'
      rw [decide_eq_false_iff_not] at q1
      have hne:u≠[]:=fun e=>q1 (by rw [e];simp)
      have hz:(u.getD 0 0).toNat=48→u.length=1∧neg=false:=fun e=>by
       rw [Bool.and_eq_false_iff] at q2
       rcases q2 with q2 | q2
       · simp only [decide_eq_false_iff_not] at q2;exact absurd e q2
       · rw [Bool.or_eq_false_iff,decide_eq_false_iff_not] at q2
         have:u.length≠0:=fun e=>hne (List.eq_nil_of_length_eq_zero e)
         exact ⟨by omega,q2.2⟩
      have hl:=c7q u.length u rfl hne ha (fun e=>(hz e).1)
      refine ⟨hne,by omega,ha,hl,fun hneg h0=>?_,hn⟩
      rw [h0,a10 (by omega)] at hl
      have:=(hz (by rw [← hl];rfl)).2
      rw [hneg] at this;cases this
    · cases hu
 unfold W8 at h
 split at h
 · cases h
 · rename_i c r
   split at h
   · rename_i hc
     subst hc
     obtain ⟨h1,h2,h3,h4,h5,h6⟩:=key true r h
     simp only [if_true] at h6
     have h5':=h5 rfl
     refine ⟨?_,by simpa [a0b] using h2,r,h1,h3,h2,.inl ⟨rfl,h6⟩⟩
     unfold a6f
     rw [if_pos (by omega),h6]
     rw [show (- -(V4 r:Int)).toNat=V4 r by omega,h4]
   · rename_i hc
     obtain ⟨h1,h2,h3,h4,h5,h6⟩:=key false (c :: r) h
     have h6:n=(V4 (c :: r):Int):=h6
     refine ⟨?_,by simpa [a0b,hc] using h2,c :: r,h1,h3,h2,.inr ⟨rfl,h6⟩⟩
     unfold a6f
     rw [if_neg (by omega),h6]
     rw [show ((V4 (c :: r):Int)).toNat=V4 (c :: r) by omega,h4]
end Go.KP
end
section
namespace Go.KP
theorem b1c {t:Tx} (ht:t.length < 1099511627776):(H8 t).1.Small:=by
 have hz:LUrl.zero.Small:=by simp [LUrl.Small,LUrl.zero]
 have hA:∀ (t:Tx) c,(j9 t c).length≤t.length:=R8
 have hB:∀ (t:Tx) c,(G4 t c).length≤t.length:=Z6
 unfold H8
 split
 · have h1:(R4 (j9 t 58)).length≤t.length:=by have:=hA t 58;simpa [R4] using this
   have h2:=hB t 58
   dsimp only
   split
   · split
     · unfold a5m
       dsimp only
       have h3:((G4 t 58).drop 2).length≤t.length:=by simp;omega
       generalize (G4 t 58).drop 2=r0 at h3
       have h4:=hA r0 35
       have h4':=hB r0 35
       generalize j9 r0 35=r1 at h4
       have h5:=hA r1 63
       have h5':=hB r1 63
       generalize j9 r1 63=r2 at h5
       have h6:=hA r2 47
       generalize j9 r2 47=r3 at h6
       have h7:=hA r3 64
       have h7':(if 64∈r3 then G4 r3 64 else r3).length≤r3.length:=by
        split
        · exact hB r3 64
        · omega
       generalize (if 64∈r3 then G4 r3 64 else r3)=r4 at h7'
       have h8:(R4 (j9 r4 58)).length≤r4.length:=by have:=hA r4 58;simpa [R4] using this
       split
       · exact hz
       · rename_i p hp
         refine ⟨by show (R4 _).length < _;omega,?_,by show (R4 _).length < _;omega,?_,by show (G4 r1 63).length < _;omega,by show (G4 r0 35).length < _;omega,?_⟩
         · show (if 64∈r3 then j9 r3 64 else []).length < _
           split
           · omega
           · simp
         · show (if 47∈r2 then r2.drop (M8 r2 47) else [47]).length < _
           split
           · simp;omega
           · simp
         · show p≤_
           unfold a2g at hp
           split at hp
           · split at hp
             · split at hp
               · have:=Option.some.inj hp
                 split at this<;>omega
               · cases hp
             · cases hp
           · have:=Option.some.inj hp;omega
     · exact hz
   · have h3:=hA (G4 t 58) 35
     have h4:=hA (j9 (G4 t 58) 35) 63
     refine ⟨by show (R4 _).length < _;omega,by simp,by simp,by show (j9 _ _).length < _;omega,by simp,by simp,by show (0:Int)≤_;omega⟩
 · exact hz
def LTarget.Small (x:LTarget):Prop:=x.url.length < 1099511627776
theorem a6v (l:List LPeer) (i:Nat) (h:i < l.length):T4 [] (l.take (i+1))=(T4 [] (l.take i) && decide (l[i].target.url∉(l.take i).map fun p=>p.target.url)):=by
 have key:∀ (l:List LPeer) (i:Nat) (seen:List Tx) (h:i < l.length),T4 seen (l.take (i+1))=(T4 seen (l.take i) && decide (l[i].target.url∉seen++(l.take i).map fun p=>p.target.url)):=by
  intro l
  induction l with
  | nil=>intro i seen h;simp at h
  | cons p l ih=>
   intro i seen h
   cases i with
   | zero=>simp [T4]
   | succ i=>
    simp only [List.take_succ_cons,T4,List.getElem_cons_succ,List.map_cons]
    rw [ih i (seen++[p.target.url]) (by simpa using h),Bool.and_assoc]
    congr 2
    simp
 simpa using key l i [] h
theorem a3n (l:List LPeer) (i:Nat) (h:T4 [] (l.take i)=false):T4 [] l=false:=by
 have key:∀ (l:List LPeer) (i:Nat) (seen:List Tx),T4 seen (l.take i)=false→T4 seen l=false:=by
  intro l
  induction l with
  | nil=>intro i seen h;simp [T4] at h
  | cons p l ih=>
   intro i seen h
   cases i with
   | zero=>simp [T4] at h
   | succ i=>
    simp only [List.take_succ_cons,T4] at h ⊢
    cases hd:decide (p.target.url∉seen) with
    | false=>rfl
    | true=>
     rw [hd] at h
     simp only [Bool.true_and] at h ⊢
     exact ih i _ h
 exact key l i [] h
end Go.KP
end
section
namespace Go.KP
def LUrl.Tiny (u:LUrl):Prop:=u.scheme.length < 1048577∧u.user.length < 1048577∧u.host.length < 1048577∧u.path.length < 1048577∧u.query.length < 1048577∧u.frag.length < 1048577∧(0≤u.port∧u.port≤65535)
theorem c08 {t:Tx} (ht:t.length < 1048577):(H8 t).1.Tiny:=by
 have hz:LUrl.zero.Tiny:=by simp [LUrl.Tiny,LUrl.zero]
 have hA:∀ (t:Tx) c,(j9 t c).length≤t.length:=R8
 have hB:∀ (t:Tx) c,(G4 t c).length≤t.length:=Z6
 unfold H8
 split
 · have h1:(R4 (j9 t 58)).length≤t.length:=by have:=hA t 58;simpa [R4] using this
   have h2:=hB t 58
   dsimp only
   split
   · split
     · unfold a5m
       dsimp only
       have h3:((G4 t 58).drop 2).length≤t.length:=by simp;omega
       generalize (G4 t 58).drop 2=r0 at h3
       have h4:=hA r0 35
       have h4':=hB r0 35
       generalize j9 r0 35=r1 at h4
       have h5:=hA r1 63
       have h5':=hB r1 63
       generalize j9 r1 63=r2 at h5
       have h6:=hA r2 47
       generalize j9 r2 47=r3 at h6
       have h7:=hA r3 64
       have h7':(if 64∈r3 then G4 r3 64 else r3).length≤r3.length:=by
        split
        · exact hB r3 64
        · omega
       generalize (if 64∈r3 then G4 r3 64 else r3)=r4 at h7'
       have h8:(R4 (j9 r4 58)).length≤r4.length:=by have:=hA r4 58;simpa [R4] using this
       split
       · exact hz
       · rename_i p hp
         refine ⟨by show (R4 _).length < _;omega,?_,by show (R4 _).length < _;omega,?_,by show (G4 r1 63).length < _;omega,by show (G4 r0 35).length < _;omega,?_⟩
         · show (if 64∈r3 then j9 r3 64 else []).length < _
           split
           · omega
           · simp
         · show (if 47∈r2 then r2.drop (M8 r2 47) else [47]).length < _
           split
           · simp;omega
           · simp
         · show 0≤p∧p≤65535
           unfold a2g at hp
           split at hp
           · split at hp
             · split at hp
               · have:=Option.some.inj hp
                 split at this<;>omega
               · cases hp
             · cases hp
           · have:=Option.some.inj hp;omega
     · exact hz
   · have h3:=hA (G4 t 58) 35
     have h4:=hA (j9 (G4 t 58) 35) 63
     refine ⟨by show (R4 _).length < _;omega,by simp,by simp,by show (j9 _ _).length < _;omega,by simp,by simp,by show (0:Int)≤0∧(0:Int)≤65535;omega⟩
 · exact hz
def Y7 (l:List LTarget):Bool:=T4 [] (l.map fun t=>⟨t,0,0,false⟩)
theorem b0s (l:List LTarget) (i:Nat) (h:i < l.length):Y7 (l.take (i+1))=(Y7 (l.take i) && decide (l[i].url∉(l.take i).map fun t=>t.url)):=by
 have:=a6v (l.map fun t=>(⟨t,0,0,false⟩:LPeer)) i (by simpa using h)
 unfold Y7
 rw [← List.map_take,← List.map_take] at this
 rw [this]
 congr 2
 simp [List.map_map,Function.comp_def]
theorem b6q (l:List LTarget) (i:Nat) (h:Y7 (l.take i)=false):Y7 l=false:=by
 unfold Y7 at h ⊢
 rw [List.map_take] at h
 exact a3n _ i h
theorem b07:∀ (l l':List LPeer) (seen:List Tx),l.map (fun p=>p.target.url)=l'.map (fun p=>p.target.url)→T4 seen l=T4 seen l'
 | [],[],_,_=>rfl
 | p :: l,p' :: l',seen,h=>by
  simp only [List.map_cons,List.cons.injEq] at h
  simp only [T4,h.1]
  rw [b07 l l' _ h.2]
 | [],_ :: _,_,h=>by simp at h
 | _ :: _,[],_,h=>by simp at h
theorem b6p (l:List LPeer):Y7 (l.map fun p=>p.target)=T4 [] l:=by
 unfold Y7
 exact b07 _ _ _ (by simp [List.map_map,Function.comp_def])
end Go.KP
end
section
namespace Go.KP
def d0d (now:Int) (x:LPeer):Bool:=!x.gone && decide (x.retry≤now)
def chMatch (now b:Int) (x:LPeer):Bool:=d0d now x && decide (x.target.prio=b)
def chSum (now b:Int):List LPeer→Int
 | []=>0
 | x :: l=>(if chMatch now b x then x.target.weight else 0)+chSum now b l
structure ChInv (now:Int) (l:List LPeer) (a:Int×Int):Prop where
 lo:0≤a.2
 hi:a.2≤9*l.length
 sum:a.2=if a.2=0 then 0 else chSum now a.1 l
 low:∀ x∈l,d0d now x=true→a.1≤x.target.prio∧0 < a.2
 nine:a.2≠0→1≤a.1∧a.1≤9
end Go.KP
end
section
namespace Go.KP
def b6x (k:Nat) (out:Tx):Tx:=if h:k=0 then out else b6x (k / 10) (UInt8.ofNat (48+k % 10) :: out)
termination_by k
decreasing_by omega
theorem c7p (out:Tx):b6x 0 out=out:=by rw [b6x];simp
theorem d0g {k:Nat} (h:k≠0) (out:Tx):b6x k out=b6x (k / 10) (UInt8.ofNat (48+k % 10) :: out):=by
 conv=>lhs;rw [b6x]
 simp [h]
def lmk (k:Nat):Tx:=if k=0 then [109,48] else 109 :: b6x k []
def a26 (k:Nat):LPeer:=⟨⟨lmk k,(k+1:Nat),(k+2:Nat)⟩,(k+3:Nat),(k+4:Nat),decide ((k+5) % 3=0)⟩
end Go.KP
end
section
namespace Go.KP
end Go.KP
end
section
namespace Go.KP
def G3 {α:Type} (f:α→Nat) (l:List α):Nat:=(l.map f).sum
def zS {α:Type} (f:α→Nat) (l:List α):Nat:=l.length+G3 f l
def bdS {α:Type} (B:Nat) (p:α→Prop) (l:List α):Prop:=l.length≤B∧∀ x∈l,p x
def cut (left:Int) (n:Nat):Int:=if left - n < 0 then -1 else left - n
theorem l5 {left:Int} {n:Nat} (h:left - n < 0):cut left n=-1:=if_pos h
theorem K9 {left:Int} {n:Nat} (h:¬ left - n < 0):cut left n=left - n:=if_neg h
theorem c8w {left:Int} {n:Nat} (h:¬ cut left n < 0) (h0:0≤left):(n:Int)≤left∧cut left n=left - n:=by
 unfold cut at *
 split at h<;>rename_i h1
 · omega
 · rw [if_neg h1];omega
theorem a09 {α:Type} {f:α→Nat} (l:List α) {i:Nat} (h:i < l.length):G3 f (l.take (i+1))=G3 f (l.take i)+f l[i]:=by
 unfold G3
 rw [List.take_add_one,List.getElem?_eq_getElem h,List.map_append,List.sum_append]
 simp
theorem a33 {α:Type} {f:α→Nat} (l:List α) (i:Nat):G3 f (l.take i)≤G3 f l:=by
 unfold G3
 conv=>rhs;rw [← List.take_append_drop i l]
 rw [List.map_append,List.sum_append]
 omega
theorem d0c {α:Type} {f:α→Nat} {l:List α} {x:α} (h:x∈l):f x≤G3 f l:=by
 unfold G3
 induction l with
 | nil=>cases h
 | cons y l ih=>
  rcases List.mem_cons.1 h with rfl | h
  · simp
  · have:=ih h;simp;omega
theorem a7b {α:Type} {B:Nat} {f:α→Nat} {p:α→Prop} {l:List α} (hp:∀ x,f x≤B→p x) (h:zS f l≤B):bdS B p l:=by
 unfold zS at h
 exact ⟨by omega,fun x hx=>hp x (by have:=d0c (f:=f) hx;omega)⟩
def S2 (x:LTarget):Nat:=x.url.length
def U4 (B:Nat) (x:LTarget):Prop:=x.url.length≤B
theorem b36 {B:Nat} {x:LTarget} (h:S2 x≤B):U4 B x:=by
 unfold S2 at h
 unfold U4
 exact by omega
def Z1 (x:LPeer):Nat:=S2 x.target
def a1d (B:Nat) (x:LPeer):Prop:=U4 B x.target
theorem c9h {B:Nat} {x:LPeer} (h:Z1 x≤B):a1d B x:=by
 unfold Z1 at h
 unfold a1d
 exact b36 (by omega)
structure LGroup where
 name:Tx
 age:Int
 targets:List LTarget
 deriving DecidableEq
def a3q (x:LGroup):Nat:=x.name.length+zS S2 x.targets
def a12 (B:Nat) (x:LGroup):Prop:=x.name.length≤B∧bdS B (U4 B) x.targets
theorem c60 {B:Nat} {x:LGroup} (h:a3q x≤B):a12 B x:=by
 unfold a3q at h
 unfold a12
 exact ⟨by omega,a7b (fun _ h=>b36 h) (show zS S2 x.targets≤B by omega)⟩
structure LRule where
 name:Tx
 words:List Tx
 deriving DecidableEq
def Z8 (x:LRule):Nat:=x.name.length+zS List.length x.words
def X5 (B:Nat) (x:LRule):Prop:=x.name.length≤B∧bdS B (fun t=>t.length≤B) x.words
theorem c9f {B:Nat} {x:LRule} (h:Z8 x≤B):X5 B x:=by
 unfold Z8 at h
 unfold X5
 exact ⟨by omega,a7b (fun _ h=>h) (show zS List.length x.words≤B by omega)⟩
structure LPolicy where
 reportTo:Tx
 uris:List Tx
 rules:List LRule
 deriving DecidableEq
def a1v (x:LPolicy):Nat:=x.reportTo.length+zS List.length x.uris+zS Z8 x.rules
def a0h (B:Nat) (x:LPolicy):Prop:=x.reportTo.length≤B∧bdS B (fun t=>t.length≤B) x.uris∧bdS B (X5 B) x.rules
theorem c29 {B:Nat} {x:LPolicy} (h:a1v x≤B):a0h B x:=by
 unfold a1v at h
 unfold a0h
 exact ⟨by omega,a7b (fun _ h=>h) (show zS List.length x.uris≤B by omega),a7b (fun _ h=>c9f h) (show zS Z8 x.rules≤B by omega)⟩
structure LViolation where
 document:Tx
 referrer:Tx
 blocked:Tx
 source:Tx
 directive:Tx
 sample:Tx
 line:Int
 column:Int
 redirected:Bool
 deriving DecidableEq
structure LReport where
 id:Int
 born:Int
 tries:Int
 body:Tx
 deriving DecidableEq
def R6 (x:LReport):Nat:=x.body.length
def X2 (B:Nat) (x:LReport):Prop:=x.body.length≤B
theorem c28 {B:Nat} {x:LReport} (h:R6 x≤B):X2 B x:=by
 unfold R6 at h
 unfold X2
 exact by omega
structure LQueue where
 items:List LReport
 recent:List Tx
 deriving DecidableEq
def a9x (x:LQueue):Nat:=zS R6 x.items+zS List.length x.recent
def a2n (B:Nat) (x:LQueue):Prop:=bdS B (X2 B) x.items∧bdS B (fun t=>t.length≤B) x.recent
theorem c6z {B:Nat} {x:LQueue} (h:a9x x≤B):a2n B x:=by
 unfold a9x at h
 unfold a2n
 exact ⟨a7b (fun _ h=>c28 h) (show zS R6 x.items≤B by omega),a7b (fun _ h=>h) (show zS List.length x.recent≤B by omega)⟩
structure LChannel where
 group:LGroup
 peers:List LPeer
 queue:LQueue
 deriving DecidableEq
def L5 (x:LChannel):Nat:=a3q x.group+zS Z1 x.peers+a9x x.queue
def Q8 (B:Nat) (x:LChannel):Prop:=a12 B x.group∧bdS B (a1d B) x.peers∧a2n B x.queue
theorem b90 {B:Nat} {x:LChannel} (h:L5 x≤B):Q8 B x:=by
 unfold L5 at h
 unfold Q8
 exact ⟨c60 (by omega),a7b (fun _ h=>c9h h) (show zS Z1 x.peers≤B by omega),c6z (by omega)⟩
structure LEntry where
 kind:Int
 id:Int
 at_:Int
 deriving DecidableEq
def b1p (B:Nat) (x:LEntry):Prop:=True
structure LWire where
 at_:Int
 status:Int
 group:Tx
 url:Tx
 ids:List Int
 body:Tx
 lost:Bool
 deriving DecidableEq
def Z7 (x:LWire):Nat:=x.group.length+x.url.length+x.ids.length+x.body.length
def Z4 (B:Nat) (x:LWire):Prop:=x.group.length≤B∧x.url.length≤B∧x.ids.length≤B∧x.body.length≤B
theorem c9e {B:Nat} {x:LWire} (h:Z7 x≤B):Z4 B x:=by
 unfold Z7 at h
 unfold Z4
 exact ⟨by omega,by omega,by omega,by omega⟩
structure LPipe where
 channels:List LChannel
 policy:LPolicy
 now:Int
 next:Int
 log:List LEntry
 wires:List LWire
 deriving DecidableEq
def b37 (x:LPipe):Nat:=zS L5 x.channels+a1v x.policy+x.log.length+zS Z7 x.wires
def a1c (B:Nat) (x:LPipe):Prop:=bdS B (Q8 B) x.channels∧a0h B x.policy∧x.log.length≤B∧bdS B (Z4 B) x.wires
theorem c9g {B:Nat} {x:LPipe} (h:b37 x≤B):a1c B x:=by
 unfold b37 at h
 unfold a1c
 exact ⟨a7b (fun _ h=>b90 h) (show zS L5 x.channels≤B by omega),c29 (by omega),by omega,a7b (fun _ h=>c9e h) (show zS Z7 x.wires≤B by omega)⟩
structure LEvent where
 kind:Int
 draw:Int
 status:Int
 ticks:Int
 text:Tx
 name:Tx
 violation:LViolation
 lost:Bool
 deriving DecidableEq
structure LParcel where
 id:Int
 age:Int
 body:Tx
 deriving DecidableEq
structure LBox where
 ids:List Int
 times:List Int
 bodies:List Tx
 deriving DecidableEq
end Go.KP
end
section
namespace Go.KP
def X4 (p q:UInt8→Bool) (t:Tx):Bool:=(t.take 1).all p && t.all q
theorem a3h {p q:UInt8→Bool} (hpq:∀ c,p c=true→q c=true) (t:Tx) (i:Nat) (h:i < t.length):X4 p q (t.take (i+1))=(X4 p q (t.take i) && (if i=0 then p t[i] else q t[i])):=by
 unfold X4
 rw [R9 t _ i h]
 by_cases hi:i=0
 · subst hi
   have:(t.take (0+1)).take 1=[t[0]]:=by
    cases t with
    | nil=>simp at h
    | cons c r=>simp
   rw [this]
   have:=hpq t[0]
   cases hp:p t[0]<;>simp_all
 · have e1:(t.take (i+1)).take 1=t.take 1:=by rw [List.take_take,Nat.min_eq_left (by omega)]
   have e2:(t.take i).take 1=t.take 1:=by rw [List.take_take,Nat.min_eq_left (by omega)]
   rw [e1,e2]
   simp [hi,Bool.and_assoc]
theorem a2h {p q:UInt8→Bool} (t:Tx) (i:Nat) (h:i < t.length) (hb:(if i=0 then p t[i] else q t[i])=false):X4 p q t=false:=by
 unfold X4
 by_cases hi:i=0
 · subst hi
   rw [if_pos rfl] at hb
   cases t with
   | nil=>simp at h
   | cons c r=>simp at hb;simp [hb]
 · rw [if_neg hi] at hb
   have:t.all q=false:=by rw [List.all_eq_false];exact ⟨t[i],List.getElem_mem h,by simp [hb]⟩
   simp [this]
def isUp (c:UInt8):Bool:=decide (65≤c.toNat∧c.toNat≤90)
def a1n (c:UInt8):Bool:=P4 c || isUp c || decide (c.toNat=95)
def a3o (c:UInt8):Bool:=a1n c || P2 c
def a1e (t:Tx):Bool:=decide (1≤t.length∧t.length≤12) && X4 a1n a3o t
def a2v (c:UInt8):Bool:=P4 c || decide (c.toNat=45)
def a2b (t:Tx):Bool:=decide (1≤t.length∧t.length≤24) && X4 P4 a2v t
def a2f (l:List Tx):Bool:=decide l.Nodup
theorem c3u (l:List Tx) (x:Tx):(l++[x]).Nodup↔l.Nodup∧x∉l:=by
 rw [List.nodup_append]
 constructor
 · rintro ⟨h1,_,h3⟩
   exact ⟨h1,fun hx=>h3 x hx x (by simp) rfl⟩
 · rintro ⟨h1,h2⟩
   refine ⟨h1,by simp,fun a ha b hb e=>?_⟩
   rw [List.mem_singleton] at hb
   subst hb;subst e
   exact h2 ha
theorem a3w (l:List Tx) (i:Nat) (h:i < l.length):a2f (l.take (i+1))=(a2f (l.take i) && decide (l[i]∉l.take i)):=by
 unfold a2f
 rw [List.take_add_one,List.getElem?_eq_getElem h,Bool.eq_iff_iff,Bool.and_eq_true,decide_eq_true_eq,decide_eq_true_eq,decide_eq_true_eq]
 exact c3u _ _
theorem b23 (l:List Tx) (i:Nat) (h:a2f (l.take i)=false):a2f l=false:=by
 unfold a2f at *
 rw [decide_eq_false_iff_not] at *
 exact fun hn=>h (hn.sublist (List.take_sublist i l))
def a07 {α:Type} (l:List α) (p:α→Bool):Int:=match l.findIdx? p with
 | some i=>i
 | none=>-1
theorem a5n {α:Type} (l:List α) (p:α→Bool):decide (0≤a07 l p)=l.any p:=by
 unfold a07
 cases h:l.findIdx? p with
 | none=>
  rw [List.findIdx?_eq_none_iff] at h
  rw [Bool.eq_iff_iff]
  simp only [decide_eq_true_eq,List.any_eq_true]
  constructor
  · intro h;omega
  · rintro ⟨x,hx,hp⟩;rw [h x hx] at hp;cases hp
 | some i=>
  rw [List.findIdx?_eq_some_iff_getElem] at h
  obtain ⟨hi,hp,_⟩:=h
  show decide (0≤(i:Int))=_
  rw [decide_eq_true (by omega)]
  symm
  rw [List.any_eq_true]
  exact ⟨l[i],List.getElem_mem hi,hp⟩
theorem a0e {α:Type} {l:List α} {p:α→Bool} {i:Nat} (hi:i < l.length) (hp:p l[i]=true) (h:∀ k (hk:k < i),p (l[k]'(by omega))=false):a07 l p=i:=by
 unfold a07
 have:l.findIdx? p=some i:=by
  rw [List.findIdx?_eq_some_iff_getElem]
  exact ⟨hi,hp,fun j hj=>by simp [h j hj]⟩
 rw [this]
theorem Y1 {α:Type} {l:List α} {p:α→Bool} (h:∀ k (hk:k < l.length),p l[k]=false):a07 l p=-1:=by
 unfold a07
 have:l.findIdx? p=none:=by
  rw [List.findIdx?_eq_none_iff]
  intro x hx
  obtain ⟨k,hk,rfl⟩:=List.getElem_of_mem hx
  exact h k hk
 rw [this]
theorem b19 {α:Type} (l:List α) (p:α→Bool):(a07 l p=-1∧l.find? p=none)∨∃ i,∃ h:i < l.length,a07 l p=i∧l.find? p=some l[i]:=by
 unfold a07
 cases h:l.findIdx? p with
 | none=>
  rw [List.findIdx?_eq_none_iff] at h
  exact .inl ⟨rfl,List.find?_eq_none.2 fun x hx=>by simp [h x hx]⟩
 | some i=>
  rw [List.findIdx?_eq_some_iff_getElem] at h
  obtain ⟨hi,hp,hlt⟩:=h
  exact .inr ⟨i,hi,rfl,List.find?_eq_some_iff_getElem.2 ⟨hp,i,hi,rfl,fun j hj=>by simpa using hlt j hj⟩⟩
theorem b18 {α:Type} (f:α→Tx) (l:List α) (i:Nat) (h:i < l.length):a07 l (fun x=>decide (f x=f l[i]))=(i:Int)↔f l[i]∉(l.map f).take i:=by
 constructor
 · intro hl hm
   unfold a07 at hl
   rw [List.mem_take_iff_getElem] at hm
   obtain ⟨k,hk,hke⟩:=hm
   have hk1:k < i:=by omega
   rw [List.getElem_map] at hke
   split at hl
   · rename_i j hj
     have:j=i:=by omega
     subst this
     rw [List.findIdx?_eq_some_iff_getElem] at hj
     have:=hj.2.2 k hk1
     simp [hke] at this
   · omega
 · intro hm
   refine a0e h (by simp) fun k hk=>?_
   rw [decide_eq_false_iff_not]
   intro e
   exact hm (by rw [List.mem_take_iff_getElem];exact ⟨k,by simp;omega,by rw [List.getElem_map];exact e⟩)
theorem a7i {α β:Type} (f:β→α→β) (b:β) (l:List α) (i:Nat) (h:i < l.length):(l.take (i+1)).foldl f b=f ((l.take i).foldl f b) l[i]:=by
 rw [List.take_add_one,List.getElem?_eq_getElem h,List.foldl_append];rfl
def a97 (t:Tx):Option Tx:=
 if (H8 t).2 && a0o (H8 t).1.scheme then some (X6 { (H8 t).1 with frag:=[],hasF:=false }) else none
theorem b1f {t:Tx} {c:UInt8} (h:c∈t):t.length=(j9 t c).length+1+(G4 t c).length:=by
 have:=W3.2 h
 unfold j9 G4
 simp;omega
theorem c1d (t:Tx):(R4 t).length=t.length:=by simp [R4]
theorem c7m {sc r:Tx} {p:Int} (h:a2g sc r=some p):r.length≤(j9 r 58).length+21:=by
 unfold a2g at h
 split at h
 · rename_i hm
   rw [b1f hm]
   split at h
   · rename_i n hn
     obtain ⟨_,_,u,_,_,h3,h4⟩:=a60 hn
     rcases h4 with ⟨h4,_⟩ | ⟨h4,_⟩
     · rw [h4];simp;omega
     · rw [h4];omega
   · cases h
 · rename_i hm
   rw [a1m hm];omega
theorem c35 {t:Tx} (h:(H8 t).2=true) (hw:a0o (H8 t).1.scheme=true):t.length≤200:=by
 have hok:=a9a h
 have hlen:=b46 hok
 unfold H8 at h hw hlen
 split at h
 · rename_i h58
   rw [if_pos h58] at hw hlen
   dsimp only at h hw hlen
   split at h
   · rename_i hsc
     rw [if_pos hsc] at hw hlen
     split at h
     · rename_i h2
       rw [if_pos h2] at hw hlen
       rw [b1f h58]
       have hr:(G4 t 58).length≤2+((G4 t 58).drop 2).length:=by simp;omega
       have hscl:=c1d (j9 t 58)
       generalize (G4 t 58).drop 2=r0 at *
       generalize R4 (j9 t 58)=sc at *
       unfold a5m at h hw hlen
       dsimp only at h hw hlen
       have k0:r0.length≤(j9 r0 35).length+(if 35∈r0 then 1+(G4 r0 35).length else 0):=by
        split
        · rename_i hm;rw [b1f hm];omega
        · rename_i hm;rw [a1m hm];omega
       generalize j9 r0 35=r1 at *
       have k1:r1.length≤(j9 r1 63).length+(if 63∈r1 then 1+(G4 r1 63).length else 0):=by
        split
        · rename_i hm;rw [b1f hm];omega
        · rename_i hm;rw [a1m hm];omega
       generalize j9 r1 63=r2 at *
       have k2:r2.length≤(j9 r2 47).length+(if 47∈r2 then r2.drop (M8 r2 47) else [47]).length:=by
        split
        · unfold j9;simp;omega
        · rename_i hm;rw [a1m hm];omega
       generalize (if 47∈r2 then r2.drop (M8 r2 47) else [47])=pa at *
       generalize j9 r2 47=r3 at *
       have k3:r3.length≤(if 64∈r3 then G4 r3 64 else r3).length+1+(if 64∈r3 then j9 r3 64 else []).length:=by
        split
        · rename_i hm;rw [b1f hm];omega
        · simp
       generalize (if 64∈r3 then G4 r3 64 else r3)=r4 at *
       generalize (if 64∈r3 then j9 r3 64 else [])=us at *
       cases hp:a2g sc r4 with
       | none=>rw [hp] at h;cases h
       | some p=>
        rw [hp] at hlen
        have k4:=c7m hp
        have k5:=c1d (j9 r4 58)
        dsimp only at hlen
        unfold X6 at hlen
        dsimp only at hlen
        rw [if_pos hsc] at hlen
        simp only [List.length_append,List.length_cons,List.length_nil] at hlen
        have q1:us.length≤(if us=[] then [] else us++[64]).length:=by split<;>simp_all
        have q2:(if 63∈r1 then 1+(G4 r1 63).length else 0)≤(if decide (63∈r1)=true then 63 :: G4 r1 63 else []).length:=by
         by_cases hm:63∈r1<;>simp [hm];omega
        have q3:(if 35∈r0 then 1+(G4 r0 35).length else 0)≤(if decide (35∈r0)=true then 35 :: G4 r0 35 else []).length:=by
         by_cases hm:35∈r0<;>simp [hm];omega
        omega
     · cases h
   · rename_i hsc
     rw [if_neg hsc] at hw
     exact absurd hw hsc
 · cases h
theorem b65 (t:Tx):a2r t=a97 t:=by
 unfold a2r a97
 by_cases hb:((H8 t).2 && a0o (H8 t).1.scheme)=true
 · have h:=hb
   simp only [Bool.and_eq_true] at h
   have hl:=c35 h.1 h.2
   rw [if_pos (by omega),if_pos hb,if_pos hb]
   rw [a71]
   exact (a7z (a9a h.1):0≤(H8 t).1.port)
 · rw [if_neg hb,if_neg hb];split<;>rfl
def a3s:Tx:=[114,101,112,111,114,116,45,116,111]
def a1j:Tx:=[114,101,112,111,114,116,45,117,114,105]
def a0c (w:Tx):Bool:=decide (w≠[]) && w.all fun c=>!decide (c.toNat=32∨c.toNat=9∨c.toNat=59)
def W7 (r:LRule):Bool:=a2b r.name && decide (r.words.length≤8) && r.words.all a0c
def W2 (l:List LRule) (name:Tx):List Tx:=match l.find? (fun r=>decide (r.name=name)) with
 | some r=>r.words
 | none=>[]
def a47 (ws:List Tx):Tx:=match ws with
 | w :: _=>if a1e w then w else []
 | []=>[]
def a3c (l:List LRule):Tx:=a47 (W2 l a3s)
def P8 (acc:List Tx) (w:Tx):List Tx:=match a97 w with
 | some u=>if u∉acc∧acc.length < 4 then acc++[u] else acc
 | none=>acc
def a3b (l:List LRule):List Tx:=(W2 l a1j).foldl P8 []
theorem c0c (acc:List Tx) (w:Tx) (h:acc.length≤4):(P8 acc w).length≤4:=by
 unfold P8
 split
 · split
   · simp;omega
   · exact h
 · exact h
theorem a7o:∀ (l:List Tx) (acc:List Tx),acc.length≤4→(l.foldl P8 acc).length≤4
 | [],_,h=>h
 | w :: l,acc,h=>a7o l _ (c0c acc w h)
def Y0 (p:LPolicy):Bool:=
 decide (p.rules.length≤8) && (p.rules.all W7 && a2f (p.rules.map fun r=>r.name)) && (decide (p.reportTo=a3c p.rules) && decide (p.uris=a3b p.rules))
def a3d (g:LGroup):Bool:=
 a1e g.name && decide (1≤g.age∧g.age≤100) && decide (1≤g.targets.length∧g.targets.length≤4) && (g.targets.all P6 && a2f (g.targets.map fun t=>t.url))
end Go.KP
end
section
namespace Go.KP
def mkL {α:Type} (f:Nat→α) (w n k:Nat):List α:=(List.range n).map fun j=>f (k+w*j)
theorem a1y {α:Type} (f:Nat→α) (w n k:Nat):(mkL f w n k).length=n:=by simp [mkL]
theorem mkL_at {α:Type} {f:Nat→α} {w n k j:Nat} (h:j < n):(mkL f w n k)[j]'(by rw [a1y];exact h)=f (k+w*j):=by simp [mkL]
theorem d0a {α:Type} (f:Nat→α) (w i k:Nat):mkL f w (i+1) k=mkL f w i k++[f (k+w*i)]:=by simp [mkL,List.range_succ]
def mkU {α:Type} (f:Nat→α) (w:Nat) (l:List α) (k i:Nat):List α:=mkL f w i k++l.drop i
theorem a6a {α:Type} (f:Nat→α) (w:Nat) (l:List α) (k:Nat):mkU f w l k 0=l:=by simp [mkU,mkL]
theorem a84 {α:Type} (f:Nat→α) (w:Nat) (l:List α) (k:Nat):mkU f w l k l.length=mkL f w l.length k:=by simp [mkU]
theorem a83 {α:Type} (f:Nat→α) (w:Nat) (l:List α) (k i:Nat) (h:i≤l.length):(mkU f w l k i).length=l.length:=by simp [mkU,a1y];omega
theorem a82 {α:Type} (f:Nat→α) (w:Nat) (l:List α) (k i:Nat) (h:i < l.length):(mkU f w l k i).set i (f (k+w*i))=mkU f w l k (i+1):=by
 unfold mkU
 rw [List.set_append_right _ _ (by rw [a1y];exact Nat.le_refl _),a1y,Nat.sub_self,List.drop_eq_getElem_cons h,List.set_cons_zero,d0a,List.append_assoc]
 rfl
def a1l (k:Nat):LTarget:=⟨lmk k,((k+1:Nat):Int),((k+2:Nat):Int)⟩
theorem b8b (l:List LTarget):Y7 l=a2f (l.map fun t=>t.url):=by
 have key:∀ i,i≤l.length→Y7 (l.take i)=a2f ((l.map fun t=>t.url).take i):=by
  intro i
  induction i with
  | zero=>intro _;simp [Y7,a2f,T4]
  | succ i ih=>
   intro hi
   rw [b0s l i (by omega),a3w _ i (by simp;omega),ih (by omega)]
   simp only [List.getElem_map,List.map_take]
 have:=key l.length (Nat.le_refl _)
 rw [List.take_length,List.take_of_length_le (by simp)] at this
 exact this
end Go.KP
end
section
namespace Go.KP
def a0i (n:Nat) (p:Nat→Bool):Bool:=(List.range n).all p
theorem a1a (p:Nat→Bool):a0i 0 p=true:=rfl
theorem a0w (p:Nat→Bool) (n:Nat):a0i (n+1) p=(a0i n p && p n):=by simp [a0i,List.range_succ]
theorem a4j {p:Nat→Bool} {n i:Nat} (hi:i < n) (h:p i=false):a0i n p=false:=by
 unfold a0i
 rw [List.all_eq_false]
 exact ⟨i,List.mem_range.2 hi,by simp [h]⟩
def Z5 (r:LReport):Bool:=decide (1≤r.id∧r.id≤1000000) && decide (0≤r.born∧r.born≤1000000) && decide (0≤r.tries∧r.tries≤3) && decide (1≤r.body.length∧r.body.length≤8000)
def a5j (l:List LReport) (i:Nat):Bool:=match l[i]? with
 | some r=>Z5 r && (match i with
  | 0=>true
  | j+1=>match l[j]? with
   | some s=>decide (s.id < r.id) && decide (s.born≤r.born)
   | none=>true)
 | none=>true
theorem b4o {l:List LReport} (h:0 < l.length):a5j l 0=Z5 l[0]:=by
 unfold a5j
 rw [List.getElem?_eq_getElem h]
 simp
theorem b4p {l:List LReport} {j:Nat} (h:j+1 < l.length):a5j l (j+1)=(Z5 l[j+1] && (decide (l[j].id < l[j+1].id) && decide (l[j].born≤l[j+1].born))):=by
 have e:=List.getElem?_eq_getElem (show j < l.length by omega)
 simp only [a5j,List.getElem?_eq_getElem h,e]
def a9m (l:List Tx) (i:Nat):Bool:=match l[i]? with
 | some t=>decide (1≤t.length∧t.length≤8000) && decide (t∉l.take i)
 | none=>true
theorem c0q {l:List Tx} {i:Nat} (h:i < l.length):a9m l i=(decide (1≤l[i].length∧l[i].length≤8000) && decide (l[i]∉l.take i)):=by
 unfold a9m
 rw [List.getElem?_eq_getElem h]
def S8 (q:LQueue):Bool:=decide (q.items.length≤5) && decide (q.recent.length≤6) && (a0i q.items.length (a5j q.items) && a0i q.recent.length (a9m q.recent))
def R2 (next now:Int) (c:LChannel):Bool:=a3d c.group && a0d c.peers && decide (c.peers.map (fun p=>p.target)=c.group.targets) && S8 c.queue && c.queue.items.all fun r=>decide (r.id < next) && decide (r.born≤now)
def a78 (next:Int) (l:List Int) (i:Nat):Bool:=match l[i]? with
 | some r=>decide (1≤r∧r≤next - 1) && (match i with
  | 0=>true
  | j+1=>match l[j]? with
   | some s=>decide (s < r)
   | none=>true)
 | none=>true
theorem b7w {next:Int} {l:List Int} (h:0 < l.length):a78 next l 0=decide ((1:Int)≤l[0]∧l[0]≤next - 1):=by
 unfold a78
 rw [List.getElem?_eq_getElem h]
 simp
theorem b7x {next:Int} {l:List Int} {j:Nat} (h:j+1 < l.length):a78 next l (j+1)=(decide ((1:Int)≤l[j+1]∧l[j+1]≤next - 1) && decide (l[j] < l[j+1])):=by
 have e:=List.getElem?_eq_getElem (show j < l.length by omega)
 simp only [a78,List.getElem?_eq_getElem h,e]
def X3 (next now:Int) (w:LWire):Bool:=decide (0≤w.at_∧w.at_≤now) && decide (100≤w.status∧w.status≤599) && a1e w.group && decide (w.url.length≤100) && decide (1≤w.ids.length∧w.ids.length≤3) && decide (w.body.length≤65536) && a0i w.ids.length (a78 next w.ids)
def a4g (next now:Int) (l:List LEntry) (i:Nat):Bool:=match l[i]? with
 | some x=>decide (1≤x.kind∧x.kind≤7) && decide (1≤x.id∧x.id≤next - 1) && decide ((match i with | 0=>0 | j+1=>match l[j]? with | some y=>y.at_ | none=>0)≤x.at_∧x.at_≤now)
 | none=>true
def a9v (l:List LEntry):Nat→Int
 | 0=>0
 | j+1=>match l[j]? with | some y=>y.at_ | none=>0
theorem b5y {next now:Int} {l:List LEntry} {i:Nat} (h:i < l.length):a4g next now l i=(decide (1≤l[i].kind∧l[i].kind≤7) && decide (1≤l[i].id∧l[i].id≤next - 1) && decide (a9v l i≤l[i].at_∧l[i].at_≤now)):=by
 unfold a4g
 rw [List.getElem?_eq_getElem h]
 cases i<;>rfl
theorem b0h {l:List LEntry} {i:Nat} (h:i < l.length):a9v l (i+1)=l[i].at_:=by
 simp only [a9v,List.getElem?_eq_getElem h]
theorem b1k {next now:Int} {l:List LEntry}:∀ {i:Nat},i≤l.length→a0i i (a4g next now l)=true→0≤a9v l i
 | 0,_,_=>Int.le_refl 0
 | i+1,hi,h=>by
  rw [a0w,Bool.and_eq_true] at h
  have ih:=b1k (i:=i) (by omega) h.1
  have h2:=h.2
  rw [b5y (by omega)] at h2
  simp only [Bool.and_eq_true,decide_eq_true_eq] at h2
  rw [b0h (by omega)]
  omega
def a3j (p:LPipe) (i:Nat):Bool:=match p.channels[i]? with
 | some c=>decide (c.group.name∉(p.channels.map fun c=>c.group.name).take i) && R2 p.next p.now c
 | none=>true
theorem b2i {p:LPipe} {i:Nat} (h:i < p.channels.length):a3j p i=(decide (p.channels[i].group.name∉(p.channels.map fun c=>c.group.name).take i) && R2 p.next p.now p.channels[i]):=by
 unfold a3j
 rw [List.getElem?_eq_getElem h]
def O7 (p:LPipe):Bool:=decide (p.channels.length≤5) && Y0 p.policy && decide (0≤p.now∧p.now≤1000000) && decide (1≤p.next∧p.next≤1000000) && decide (p.log.length≤4096) && decide (p.wires.length≤4096) &&
 (a0i p.channels.length (a3j p) && a0i p.log.length (a4g p.next p.now p.log) && p.wires.all (X3 p.next p.now))
theorem b08 {q:LQueue} {i:Nat} (hi:i < q.items.length) (h:a5j q.items i=false):S8 q=false:=by
 unfold S8;rw [a4j hi h];simp
theorem b09 {q:LQueue} {i:Nat} (hi:i < q.recent.length) (h:a9m q.recent i=false):S8 q=false:=by
 unfold S8;rw [a4j hi h];simp
end Go.KP
end
section
namespace Go.PW
open Go.RowKit Go.KP
theorem u8_eq {a b:UInt8}:((a.toNat:Int)=(b.toNat:Int))↔a=b:=by
 constructor
 · intro h;exact UInt8.toNat_inj.1 (by omega)
 · rintro rfl;rfl
def rvb (c:UInt8):RV:=.int .u8 c.toNat
def tx (t:Tx):RV:=.str (bs t)
def num (n:Int):RV:=.int .i64 n
theorem c2y (l:Tx):Y9 (l.map rvb)=bs l:=by
 unfold Y9 bs
 congr 1
 congr 1
 rw [List.map_map]
 have:(RV.byte ∘ rvb)=id:=by
  funext c
  simp [rvb,RV.byte]
 rw [this];simp
theorem b3w {x:Int} (h1:0≤x) (h2:x < 256):IntKind.u8.wrap x=x:=by
 unfold IntKind.wrap
 simp [IntKind.bits,IntKind.signed]
 omega
def X0 (u:LUrl):RV:=.agg [tx u.scheme,tx u.user,tx u.host,num u.port,tx u.path,tx u.query,tx u.frag,.bool u.hasQ,.bool u.hasF]
end Go.PW
end
section
namespace Go.PW
open Go.RowKit Go.KP
variable [GF]
theorem b4r (φ:Nat→Option RV) (rs:List RV):PV.plL (PV.frzL φ (rs.map .val))=rs.map .val:=by
 induction rs with
 | nil=>rfl
 | cons r rs ih=>simp [PV.frzL,PV.plL,PV.frz,PV.pl,ih]
theorem c50 {st:St} {s n t id:Nat} {rs:List RV} {r:RV} (h1:st.env s=.ptr id 0) (h2:st.mem id=.box (rs.map .val)) (h3:rs.length=n) (h4:0 < n) (h5:st.env t=.val r) :
 T5 [.c s true n,.t t] st.fin=some (.tup [L8 (rs.map .val),.val r]):=by
 have e1:st.fin.env s=.ptr id 0:=by rw [L6,h1];simp [PV.frz,Z3,h2,PV.pl]
 have e2:st.fin.mem id=.box (rs.map .val):=by
  simp only [St.fin,St.freeze,h2,MObj.pl,b4r]
 have e3:st.fin.env t=.val r:=by rw [L6,h5];rfl
 simp only [T5,a7r,a4z,e1,e2,e3]
 simp only [List.length_map,h3,Nat.zero_add,List.drop_zero,if_true]
 rw [if_pos ⟨by omega,h4⟩,List.take_of_length_le (by simp [h3])]
 rfl
theorem b8i {st:St} {s n id:Nat} {rs:List RV} (h1:st.env s=.ptr id 0) (h2:st.mem id=.box (rs.map .val)) (h3:rs.length=n) (h4:0 < n) :
 T5 [.c s true n] st.fin=some (L8 (rs.map .val)):=by
 have e1:st.fin.env s=.ptr id 0:=by rw [L6,h1];simp [PV.frz,Z3,h2,PV.pl]
 have e2:st.fin.mem id=.box (rs.map .val):=by
  simp only [St.fin,St.freeze,h2,MObj.pl,b4r]
 simp only [T5,a4z,e1,e2]
 simp only [List.length_map,h3,Nat.zero_add,List.drop_zero,if_true]
 rw [if_pos ⟨by omega,h4⟩,List.take_of_length_le (by simp [h3])]
def b2q (u:LUrl):List RV:=[tx u.scheme,tx u.user,tx u.host,num u.port,tx u.path,tx u.query,tx u.frag,.bool u.hasQ,.bool u.hasF]
def f5 (u:LUrl):List PV:=[.val (tx u.scheme),.val (tx u.user),.val (tx u.host),.val (num u.port),.val (tx u.path),.val (tx u.query),.val (tx u.frag),.val (.bool u.hasQ),.val (.bool u.hasF)]
theorem b2r (u:LUrl):f5 u=(b2q u).map .val:=rfl
def a58 (r:LUrl×Bool):PV:=.tup [.val (X0 r.1),.val (.bool r.2)]
theorem b7q (u:LUrl):L8 ((b2q u).map .val)=.val (X0 u):=by simp [b2q,L8,i6,X0]
theorem a7s {st:St} {s t id:Nat} {u:LUrl} {b:Bool} (h1:st.env s=.ptr id 0) (h2:st.mem id=.box (f5 u)) (h5:st.env t=.val (.bool b)):T5 [.c s true 9,.t t] st.fin=some (a58 (u,b)):=by
 rw [c50 (n:=9) (rs:=b2q u) h1 (by rw [h2,b2r]) rfl (by omega) h5,b7q]
 rfl
def f8 (x:LTarget):RV:=.agg [tx x.url,num x.prio,num x.weight]
def F9 (x:LPeer):RV:=.agg [tx x.target.url,num x.target.prio,num x.target.weight,num x.fails,num x.retry,.bool x.gone]
def P3 (l:List LPeer):RV:=.list 6 (l.map F9)
theorem a8n {P:Program} {st:St} {Ke:Kx (PV→St→Prop)} {kx:Kx (RV→St→Prop)} {d f ps as p} (ha:a4i st.mem ps=some as) (hb:boxIds ps=[]) (hs:∀ b,p.shift b=p) (ho:p.ownLt 0=true) (hr:ps.all PV.noOwn=true∨p.flat=true) (h:d8 P f as (.ret p []) []) (hK:Ke.k p st):KC P st d f ps (Ke:=Ke) (kx:=kx):=by
 refine a5b (K:=fun q st'=>q=p∧st'=st) (kx:=fun _ _=>False) (fun p s hh=>by obtain ⟨rfl,rfl⟩:=hh;exact hK) (fun _ _ hh=>hh.elim) (a5t ?_)
 unfold a4p
 rw [ha]
 exact ⟨hb,p,h,hs,ho,hr,rfl⟩
theorem Y3 {P:Program} {st:St} {Ke:Kx (PV→St→Prop)} {kx:Kx (RV→St→Prop)} {d f ps as a b} (ha:a4i st.mem ps=some as) (hb:boxIds ps=[]) (hr:ps.all PV.noOwn=true∨(PV.tup [.val a,.val b]).flat=true) (h:d8 P f as (.ret (.tup [.val a,.val b]) []) []) (hK:Ke.k (.tup [.val a,.val b]) st):KC P st d f ps (Ke:=Ke) (kx:=kx):=
 a8n ha hb (fun _=>rfl) rfl hr h hK
theorem a1s {P:Program} {st:St} {Ke:Kx (PV→St→Prop)} {kx:Kx (RV→St→Prop)} {d f ps as a b c} (ha:a4i st.mem ps=some as) (hb:boxIds ps=[]) (hr:ps.all PV.noOwn=true∨(PV.tup [.val a,.val b,.val c]).flat=true) (h:d8 P f as (.ret (.tup [.val a,.val b,.val c]) []) []) (hK:Ke.k (.tup [.val a,.val b,.val c]) st):KC P st d f ps (Ke:=Ke) (kx:=kx):=
 a8n ha hb (fun _=>rfl) rfl hr h hK
end Go.PW
end
section
namespace Go.PW
open Go.RowKit Go.KP
variable [GF]
def RV.sv:RV→Option Value
 | .str s=>some (.string s)
 | .int k n=>some (.int k n)
 | .bool b=>some (.bool b)
 | _=>none
def svs:List RV→Option (List Value)
 | []=>some []
 | r :: rs=>match r.sv,svs rs with
  | some v,some vs=>some (v :: vs)
  | _,_=>none
theorem sv_rep {L:Nat→Prop} {w:World} {r:RV} {v u:Value} (h:r.sv=some v) (hr:RepR L w r u):u=v:=by
 cases hr with
 | bool b=>simpa [RV.sv] using h
 | int k n=>simpa [RV.sv] using h
 | str s=>simpa [RV.sv] using h
 | _=>simp [RV.sv] at h
theorem c5v {L:Nat→Prop} {w:World} {r:RV} {v:Value} (h:r.sv=some v):RepR L w r v:=by
 cases r with
 | bool b=>simp [RV.sv] at h;subst h;exact .bool b
 | int k n=>simp [RV.sv] at h;subst h;exact .int k n
 | str s=>simp [RV.sv] at h;subst h;exact .str s
 | _=>simp [RV.sv] at h
theorem b9x {L:Nat→Prop} {w:World}:∀ {rs:List RV} {vals vs:List Value} {ms:List Nat},svs rs=some vals→ArgsRep L w (rs.map .val) vs ms→vs=vals∧ms=[]
 | [],vals,vs,ms,h,hr=>by
  simp [svs] at h;subst h
  cases hr;exact ⟨rfl,rfl⟩
 | r :: rs,vals,vs,ms,h,hr=>by
  rw [List.map_cons] at hr
  cases hr with
  | cons _ _ v vs' ms1 ms2 h1 h2=>
   cases h1 with
   | val _ _ h1=>
    simp only [svs] at h
    split at h
    · rename_i v' vs'' e1 e2
      obtain ⟨rfl,rfl⟩:=b9x e2 h2
      have:=sv_rep e1 h1
      subst this
      have:=Option.some.inj h
      exact ⟨this,rfl⟩
    · cases h
theorem b21 {F:Ctx} {γ:Nat→Value} {w:World}:MemInv F γ (A1 []) w:=
 ⟨fun id cs h=>by simp [A1] at h,fun id E sz xs h=>by simp [A1] at h,fun id E sz n c h=>by simp [A1] at h,fun id s clk m h=>by simp [A1] at h,fun id id' b h=>by simp [A1,MObj.live] at h⟩
theorem b72 {P:Program} {f:Nat} {rs:List RV} {vals:List Value} {p:PV} {v:Value} (ha:svs rs=some vals) (hp:∀ γ L w,RepP γ L w p v)
 (h:∀ L w,Globs L w→b7f L w→Calls P f vals.toArray w fun e w'=>e=.returned v∧Below w.heap.size w w'):d8 P f (rs.map .val) (.ret p []) []:=by
 intro L w vs ms hL hgl hgb hargs hnd
 obtain ⟨rfl,rfl⟩:=b9x ha hargs
 refine (h L w hgl hgb).mono fun e w' ⟨he,hb⟩=>?_
 exact ⟨Outside.of_below hb,v,fun _=>undef,he,hp _ _ _,b21,rfl,fun i b cells h1 h2=>by simp at h1⟩
theorem a2s {P:Program} {f:Nat} {rs:List RV} {vals:List Value} {r:RV} {v:Value} (ha:svs rs=some vals) (hv:r.sv=some v)
 (h:∀ L w,Globs L w→b7f L w→Calls P f vals.toArray w fun e w'=>e=.returned v∧Below w.heap.size w w'):d8 P f (rs.map .val) (.ret (.val r) []) []:=
 b72 ha (fun γ L w=>.val _ _ (c5v hv)) h
theorem b4e:∀ {rs:List RV} {vals:List Value},svs rs=some vals→vals.length=rs.length
 | [],vals,h=>by simp [svs] at h;subst h;rfl
 | r :: rs,vals,h=>by
  simp only [svs] at h
  split at h
  · rename_i v vs e1 e2
    have:=b4e e2
    have h:=Option.some.inj h
    subst h;simp [this]
  · cases h
theorem c0d {L:Nat→Prop} {w:World}:∀ {rs:List RV} {vals:List Value},svs rs=some vals→∀ i,i < rs.length→RepR L w (rs.getD i .nilptr) (vals.getD i undef)
 | [],vals,h,i,hi=>by simp at hi
 | r :: rs,vals,h,i,hi=>by
  simp only [svs] at h
  split at h
  · rename_i v vs e1 e2
    have h:=Option.some.inj h
    subst h
    cases i with
    | zero=>simpa using c5v e1
    | succ i=>simpa using c0d e2 i (by simpa using hi)
  · cases h
theorem b55 {P:Program} {f:Nat} {rs:List RV} {vals:List Value} {qs:List RV} {us:List Value} (ha:svs rs=some vals) (hv:svs qs=some us)
 (h:∀ L w,Globs L w→b7f L w→Calls P f vals.toArray w fun e w'=>e=.returned (.tuple us.toArray)∧Below w.heap.size w w'):d8 P f (rs.map .val) (.ret (.tup (qs.map .val)) []) []:=
 b72 ha (fun γ L w=>.tup _ _ (by simp [b4e hv]) fun i hi=>by
  have hi':i < qs.length:=by simpa using hi
  have e1:(qs.map PV.val).getD i .undef=.val (qs.getD i .nilptr):=by simp [List.getD_eq_getElem?_getD,List.getElem?_eq_getElem hi']
  have e2:us.toArray.getD i undef=us.getD i undef:=by simp [List.getD_eq_getElem?_getD,Array.getD_eq_getD_getElem?]
  rw [e1,e2]
  exact .val _ _ (c0d hv i hi')) h
theorem a5e {w w':World} (h:w'=w):Below w.heap.size w w':=by subst h;exact Below.refl _ _
end Go.PW
end
section
namespace Go.PW
open Go.RowKit Go.KP
variable [GF]
def a2z (M:Nat→MObj):List Nat→List (List RV)→Prop
 | [],[]=>True
 | id :: ids,b :: bs=>M id=.box (b.map .val)∧a2z M ids bs
 | _,_=>False
def R3 (M:Nat→MObj):Nat→List (List RV)→Prop
 | _,[]=>True
 | k,b :: bs=>M (900+k)=.box (b.map .val)∧R3 M (k+1) bs
theorem a9l:∀ {M:Nat→MObj} {ids:List Nat} {B:List (List RV)},a2z M ids B→V2 M ids B=M
 | M,[],[],_=>rfl
 | M,id :: ids,b :: bs,h=>by
  have e:upd id (.box (b.map .val)) M=M:=by
   funext x
   by_cases hx:x=id
   · subst hx;rw [P7,h.1]
   · rw [P5 _ _ _ _ hx]
  simp only [V2]
  rw [e]
  exact a9l h.2
 | M,[],_ :: _,h=>h.elim
 | M,_ :: _,[],h=>h.elim
theorem b7i:∀ {M:Nat→MObj} {ids:List Nat} {B:List (List RV)},a2z M ids B→B.length=ids.length
 | M,[],[],_=>rfl
 | M,id :: ids,b :: bs,h=>by simp [b7i h.2]
 | M,[],_ :: _,h=>h.elim
 | M,_ :: _,[],h=>h.elim
theorem c9j (b:List RV):G1 (b.map .val)=some b:=by
 induction b with
 | nil=>rfl
 | cons r b ih=>simp [G1,ih]
theorem b1o {st:St}:∀ {k:Nat} {B:List (List RV)},R3 st.mem k B→a6j st.fin k B
 | k,[],_=>trivial
 | k,b :: B,h=>by
  have e2:st.fin.mem (900+k)=.box (b.map .val):=by
   simp only [St.fin,St.freeze,h.1,MObj.pl,b4r]
  exact ⟨by rw [e2];exact c9j b,b1o h.2⟩
def RetB (res:List Rs) (p:PV) (B:List (List RV)):PExit→St→Prop
 | .normal,st=>T5 res st.fin=some p∧R3 st.mem 0 B
 | .ret,st=>T5 res st.fin=some p∧R3 st.mem 0 B
 | _,_=>False
@[simp] theorem S3 {res p B} {st:St}:RetB res p B .ret st=(T5 res st.fin=some p∧R3 st.mem 0 B):=by rfl
@[simp] theorem RetB_normal {res p B} {st:St}:RetB res p B .normal st=(T5 res st.fin=some p∧R3 st.mem 0 B):=by rfl
theorem U9 {P:Program} {f:Nat} {c:PC} {res:List Rs} {as:List AV} {p:PV} {B:List (List RV)} (hm:P.follows .mixedOrders=true) (hc:i8 P f c as.length res=true) (hb:b8 as=B) (hp:∀ ι,p.ren ι=p)
 (h:a0g P c (d9 as) (RetB res p B)):d8 P f as (.ret p []) B:=by
 refine b34 hm hc (U6 (fun e s hh=>?_) h)
 have key:T5 res s.fin=some p∧R3 s.mem 0 B→∃ st',Le s st'∧b9z res (b8 as).length (.ret p []) B .ret st':=fun hh=>
  ⟨s.fin,(Le.freeze s _).trans (Le.plain _),(by rw [hb]),⟨⟨id,by rw [hp];exact hh.1,fun i j hi=>by simp at hi,fun i r hr=>by simp at hr⟩,b1o hh.2⟩⟩
 cases e with
 | normal=>exact key hh
 | ret=>exact key hh
 | exit id=>exact hh.elim
 | pan r=>exact hh.elim
theorem b87 (st:St):st.kill (fun _=>false)=st:=by
 cases st with
 | mk env mem=>
  simp only [St.kill,PV.kill_none]
  congr 1
  funext x
  cases mem x with
  | dead=>rfl
  | row E sz xs=>rfl
  | box cs=>simp [MObj.kill,PV.killL_none]
  | prow E sz n c=>simp [MObj.kill,PV.kill_none]
  | map s clk m => 
   have:(fun k=>(m k).map fun p=>(p.1.kill fun _=>false,p.2))=m:=by funext k;cases m k<;>simp [PV.kill_none]
   simp only [MObj.kill,this];rfl
theorem T2 {P:Program} {st:St} {Ke:Kx (PV→St→Prop)} {kx:Kx (RV→St→Prop)} {d f ps as r ids B} (ha:a4i st.mem ps=some as) (hb:boxIds ps=ids) (hn:ids.Nodup) (hlt:ids.all (· < l3 d)=true) (hB:a2z st.mem ids B) (hr:ps.all PV.noOwn=true)
 (h:d8 P f as (.ret (.val r) []) B) (hK:Ke.k (.val r) st):KC P st d f ps (Ke:=Ke) (kx:=kx):=by
 unfold KC
 refine .inl ?_
 unfold a8o
 rw [ha]
 refine ⟨by rw [hb];exact hn,by rw [hb];exact hlt,.ret (.val r) [],B,h,by rw [hb];exact b7i hB,rfl,.inl hr,?_⟩
 have e:(fun i=>decide (l3 d≤i) && decide (i < l3 d+([]:List Row).length))=fun _=>false:=by
  funext i
  simp only [List.length_nil,Nat.add_zero,Bool.and_eq_false_imp,decide_eq_true_eq,decide_eq_false_iff_not]
  omega
 rw [e,b87]
 simp only [T8,hb]
 rw [a9l hB]
 exact hK
end Go.PW
end
section
namespace Go.PW
open Go.RowKit Go.KP
def a25 {α:Type} (r:α→RV) (z:RV) (l:List α) (i:Nat):List RV:=(l.take i).map r++List.replicate (l.length - i) z
theorem a4x {α:Type} (r:α→RV) (z:RV) (l:List α):a25 r z l 0=List.replicate l.length z:=by simp [a25]
theorem a56 {α:Type} (r:α→RV) (z:RV) (l:List α):a25 r z l l.length=l.map r:=by simp [a25]
theorem a55 {α:Type} (r:α→RV) (z:RV) (l:List α) (i:Nat) (h:i≤l.length):(a25 r z l i).length=l.length:=by simp [a25];omega
theorem a54 {α:Type} (r:α→RV) (z:RV) (l:List α) (i:Nat) (h:i < l.length):(a25 r z l i).set i (r l[i])=a25 r z l (i+1):=by
 unfold a25
 have h1:l.length - i=(l.length - (i+1))+1:=by omega
 have h2:((l.take i).map r).length=i:=by simp;omega
 rw [h1,List.replicate_succ,List.set_append_right _ _ (by omega),h2,Nat.sub_self,List.set_cons_zero]
 rw [List.take_add_one,List.getElem?_eq_getElem h,List.map_append,List.append_assoc]
 rfl
theorem a8v {α:Type} (r:α→RV) (z:RV) (l:List α) (i:Nat) (h:i < l.length):(a25 r z l i)[i]?.getD .nilptr=z:=by
 unfold a25
 have h1:l.length - i=(l.length - (i+1))+1:=by omega
 have h2:((l.take i).map r).length=i:=by simp;omega
 rw [h1,List.replicate_succ,List.getElem?_append_right (by omega),h2]
 simp
def Y5 (o:Option Tx):PV:=.tup [.val (tx (o.getD [])),.val (.bool o.isSome)]
theorem b8h [GF] {st:St} {s n id:Nat} {cs:List PV} {rs:List RV} (h1:st.env s=.ptr id 0) (h2:st.mem id=.box cs) (hz:PV.plL (PV.frzL (Z3 st fun _=>true) cs)=rs.map .val) (h3:rs.length=n) (h4:0 < n) :
 T5 [.c s true n] st.fin=some (L8 (rs.map .val)):=by
 have e1:st.fin.env s=.ptr id 0:=by rw [L6,h1];simp [PV.frz,Z3,h2,PV.pl]
 have e2:st.fin.mem id=.box (rs.map .val):=by
  simp only [St.fin,St.freeze,h2,MObj.pl]
  rw [hz]
 simp only [T5,a4z,e1,e2]
 simp only [List.length_map,h3,Nat.zero_add,List.drop_zero,if_true]
 rw [if_pos ⟨by omega,h4⟩,List.take_of_length_le (by simp [h3])]
def c58 {α:Type} (sz id:Nat):List α→PV
 | []=>.emp sz
 | _ :: _=>.own id
def c9s {α:Type} (E sz:Nat) (r:α→RV):List α→MObj
 | []=>.dead
 | x :: xs=>.row E sz ((x :: xs).map r)
@[simp] theorem c7d {α:Type} (sz id:Nat):c58 sz id ([]:List α)=.emp sz:=rfl
@[simp] theorem ownOr_cons {α:Type} (sz id:Nat) (x:α) (xs:List α):c58 sz id (x :: xs)=.own id:=rfl
@[simp] theorem rowOr_nil {α:Type} (E sz:Nat) (r:α→RV):c9s E sz r []=.dead:=rfl
@[simp] theorem rowOr_cons {α:Type} (E sz:Nat) (r:α→RV) (x:α) (xs:List α):c9s E sz r (x :: xs)=.row E sz (r x :: xs.map r):=rfl
theorem Le.mkD [GF] {st:St} (le:List (Nat×PV)) (lm:List (Nat×MObj)) (h1:∀ kp∈le,st.env kp.1=kp.2) (h2:∀ kp∈lm,kp.2=.dead∨st.mem kp.1=kp.2):Le st ⟨t6 le,u1 lm⟩:=by
 refine Le.drop (fun i=>?_) (fun x=>?_)
 · show u1 lm i=st.mem i∨u1 lm i=.dead
   induction lm with
   | nil=>exact .inr rfl
   | cons kp lm ih=>
    obtain ⟨k,o⟩:=kp
    simp only [u1]
    split
    · rename_i e;subst e
      rcases h2 (i,o) (by simp) with h | h
      · exact .inr h
      · exact .inl h.symm
    · exact ih fun kp hkp=>h2 kp (by simp [hkp])
 · show Wk (st.env x) (t6 le x)
   induction le with
   | nil=>exact .undef _
   | cons kp le ih=>
    obtain ⟨k,p⟩:=kp
    simp only [t6]
    split
    · rename_i e;subst e;rw [h1 (x,p) (by simp)];exact .refl p
    · exact ih fun kp hkp=>h1 kp (by simp [hkp])
@[simp] theorem rvTarget_len (x:LTarget):(f8 x).cells.length=3:=rfl
@[simp] theorem rvPeer_len (x:LPeer):(F9 x).cells.length=6:=rfl
def L9 (x:LGroup):RV:=.agg [tx x.name,num x.age,.list 3 (x.targets.map f8)]
@[simp] theorem rvGroup_len (x:LGroup):(L9 x).cells.length=3:=rfl
def l4 (x:LRule):RV:=.agg [tx x.name,.list 1 (x.words.map tx)]
@[simp] theorem rvRule_len (x:LRule):(l4 x).cells.length=2:=rfl
def w8 (x:LPolicy):RV:=.agg [tx x.reportTo,.list 1 (x.uris.map tx),.list 2 (x.rules.map l4)]
@[simp] theorem rvPolicy_len (x:LPolicy):(w8 x).cells.length=3:=rfl
def c0l (x:LViolation):RV:=.agg [tx x.document,tx x.referrer,tx x.blocked,tx x.source,tx x.directive,tx x.sample,num x.line,num x.column,.bool x.redirected]
@[simp] theorem c9d (x:LViolation):(c0l x).cells.length=9:=rfl
def i7 (x:LReport):RV:=.agg [num x.id,num x.born,num x.tries,tx x.body]
@[simp] theorem rvReport_len (x:LReport):(i7 x).cells.length=4:=rfl
def K8 (x:LQueue):RV:=.agg [.list 4 (x.items.map i7),.list 1 (x.recent.map tx)]
@[simp] theorem rvQueue_len (x:LQueue):(K8 x).cells.length=2:=rfl
def j5 (x:LChannel):RV:=.agg [tx x.group.name,num x.group.age,.list 3 (x.group.targets.map f8),.list 6 (x.peers.map F9),.list 4 (x.queue.items.map i7),.list 1 (x.queue.recent.map tx)]
@[simp] theorem rvChannel_len (x:LChannel):(j5 x).cells.length=6:=rfl
def G0 (x:LEntry):RV:=.agg [num x.kind,num x.id,num x.at_]
@[simp] theorem rvEntry_len (x:LEntry):(G0 x).cells.length=3:=rfl
def H5 (x:LWire):RV:=.agg [num x.at_,num x.status,tx x.group,tx x.url,.list 1 (x.ids.map num),tx x.body,.bool x.lost]
@[simp] theorem rvWire_len (x:LWire):(H5 x).cells.length=7:=rfl
def L4 (x:LPipe):RV:=.agg [.list 6 (x.channels.map j5),tx x.policy.reportTo,.list 1 (x.policy.uris.map tx),.list 2 (x.policy.rules.map l4),num x.now,num x.next,.list 3 (x.log.map G0),.list 7 (x.wires.map H5)]
@[simp] theorem rvPipe_len (x:LPipe):(L4 x).cells.length=8:=rfl
def rvEvent (x:LEvent):RV:=.agg [num x.kind,num x.draw,num x.status,num x.ticks,tx x.text,tx x.name,tx x.violation.document,tx x.violation.referrer,tx x.violation.blocked,tx x.violation.source,tx x.violation.directive,tx x.violation.sample,num x.violation.line,num x.violation.column,.bool x.violation.redirected,.bool x.lost]
@[simp] theorem rvEvent_len (x:LEvent):(rvEvent x).cells.length=16:=rfl
def c9r (x:LParcel):RV:=.agg [num x.id,num x.age,tx x.body]
@[simp] theorem rvParcel_len (x:LParcel):(c9r x).cells.length=3:=rfl
def rvBox (x:LBox):RV:=.agg [.list 1 (x.ids.map num),.list 1 (x.times.map num),.list 1 (x.bodies.map tx)]
@[simp] theorem rvBox_len (x:LBox):(rvBox x).cells.length=3:=rfl
end Go.PW
end
section
namespace Go.KP
end Go.KP
end
section
namespace Go.KP
def a06 (k:Nat):LReport:=⟨(k:Nat),(k+1:Nat),(k+2:Nat),lmk (k+3)⟩
def a29 (k:Nat):LEntry:=⟨(k:Nat),(k+1:Nat),(k+2:Nat)⟩
def a27 (k:Nat):Int:=(k:Nat)
def T1 (c:LChannel):Nat:=2+3*c.group.targets.length+6*c.peers.length+4*c.queue.items.length+c.queue.recent.length
def Y8 (r:LRule):Nat:=1+r.words.length
def a0p (w:LWire):Nat:=6+w.ids.length
theorem b1s {α:Type} (z:α→Nat) (l:List α):l.length≤zS z l:=Nat.le_add_right _ _
theorem b7b (c:LChannel):T1 c≤2+6*L5 c:=by
 have h1:=b1s S2 c.group.targets
 have h2:=b1s Z1 c.peers
 have h3:=b1s R6 c.queue.items
 have h4:=b1s List.length c.queue.recent
 unfold T1 L5 a3q a9x
 omega
theorem c5i (r:LRule):Y8 r≤1+6*Z8 r:=by
 have h1:=b1s List.length r.words
 unfold Y8 Z8
 omega
theorem c5h (w:LWire):a0p w≤6+6*Z7 w:=by
 unfold a0p Z7
 omega
theorem b47 {α:Type} (c z:α→Nat) (h:∀ x,c x≤6+6*z x) (l:List α):G3 c l≤6*zS z l:=by
 have:G3 c l≤6*(l.length+G3 z l):=by
  induction l with
  | nil=>simp [G3]
  | cons x l ih=>simp only [G3,List.map_cons,List.sum_cons,List.length_cons] at *;have:=h x;omega
 exact this
def a66 (p:LPipe):Nat:=G3 T1 p.channels+p.policy.uris.length+G3 Y8 p.policy.rules+3*p.log.length+G3 a0p p.wires
theorem c5j (p:LPipe):a66 p≤6*b37 p:=by
 have h1:=b47 T1 L5 (fun x=>by have:=b7b x;omega) p.channels
 have h2:=b47 Y8 Z8 (fun x=>by have:=c5i x;omega) p.policy.rules
 have h3:=b47 a0p Z7 (fun x=>by have:=c5h x;omega) p.wires
 have h4:=b1s List.length p.policy.uris
 unfold a66 b37 a1v
 omega
end Go.KP
end
section
namespace Go.KP
def a6z (out:List Int) (x:Int):Nat→Nat
 | 0=>0
 | n+1=>if x < out.getD n 0 then a6z out x n else n+1
theorem c6f (out:List Int) (x:Int):∀ n,a6z out x n≤n
 | 0=>Nat.le_refl _
 | n+1=>by unfold a6z;split;(have:=c6f out x n;omega);omega
theorem b49 (out:List Int) (x:Int):∀ n i,a6z out x n≤i→i < n→x < out.getD i 0
 | 0,i,_,h=>by omega
 | n+1,i,h1,h2=>by
  unfold a6z at h1
  split at h1
  · rename_i h
    by_cases hi:i=n
    · rw [hi];exact h
    · exact b49 out x n i h1 (by omega)
  · omega
theorem b48 (out:List Int) (x:Int):∀ n,0 < a6z out x n→out.getD (a6z out x n - 1) 0≤x
 | 0,h=>by simp [a6z] at h
 | n+1,h=>by
  unfold a6z at h ⊢
  split
  · rename_i hx;rw [if_pos hx] at h;exact b48 out x n h
  · rename_i hx;simpa using hx
def a6y (out:List Int) (x:Int):List Int:=out.take (a6z out x out.length)++[x]++out.drop (a6z out x out.length)
theorem c7l (out:List Int) (x:Int):(a6y out x).Perm (x :: out):=by
 unfold a6y
 rw [List.append_assoc]
 refine (List.perm_middle).trans ?_
 show (x :: (out.take (a6z out x out.length)++out.drop (a6z out x out.length))).Perm _
 rw [List.take_append_drop]
theorem c07 (out:List Int) (x:Int) (h:out.Pairwise (·≤·)):(a6y out x).Pairwise (·≤·):=by
 have hat:∀ i j,i < j→j < out.length→out.getD i 0≤out.getD j 0:=fun i j hij hj=>by
  have:=List.pairwise_iff_getElem.1 h i j (by omega) hj hij
  simpa [List.getD_eq_getElem?_getD,List.getElem?_eq_getElem hj,List.getElem?_eq_getElem (show i < out.length by omega)] using this
 unfold a6y
 generalize hn:a6z out x out.length=n
 have hle:n≤out.length:=hn ▸ c6f out x out.length
 have lo:∀ a∈out.take n,a≤x:=fun a ha=>by
  obtain ⟨i,hi,rfl⟩:=List.mem_iff_getElem.1 ha
  rw [List.length_take] at hi
  have h1:=b48 out x out.length (by rw [hn];omega)
  rw [hn] at h1
  have h2:out.getD i 0≤out.getD (n - 1) 0:=by
   by_cases he:i=n - 1
   · rw [he];exact Int.le_refl _
   · exact hat i (n - 1) (by omega) (by omega)
  have h3:out.getD i 0=out[i]'(by omega):=by simp [List.getD_eq_getElem?_getD,List.getElem?_eq_getElem (show i < out.length by omega)]
  rw [List.getElem_take]
  omega
 have hi:∀ b∈out.drop n,x≤b:=fun b hb=>by
  obtain ⟨i,hi,rfl⟩:=List.mem_iff_getElem.1 hb
  rw [List.length_drop] at hi
  have h1:=b49 out x out.length (n+i) (by rw [hn];omega) (by omega)
  have h3:out.getD (n+i) 0=out[n+i]'(by omega):=by simp [List.getD_eq_getElem?_getD,List.getElem?_eq_getElem (show n+i < out.length by omega)]
  rw [List.getElem_drop]
  omega
 rw [List.append_assoc,List.pairwise_append]
 refine ⟨h.sublist (List.take_sublist _ _),?_,fun a ha b hb=>?_⟩
 · rw [List.singleton_append,List.pairwise_cons]
   exact ⟨hi,h.sublist (List.drop_sublist _ _)⟩
 · rcases List.mem_cons.1 hb with rfl | hb
   · exact lo a ha
   · exact Int.le_trans (lo a ha) (hi b hb)
theorem a6x:∀ (l out:List Int),(l.foldl a6y out).Perm (l++out)
 | [],out=>List.Perm.refl _
 | x :: l,out=>(a6x l (a6y out x)).trans (((c7l out x).append_left l).trans List.perm_middle)
theorem b1a:∀ (l out:List Int),out.Pairwise (·≤·)→(l.foldl a6y out).Pairwise (·≤·)
 | [],out,h=>h
 | x :: l,out,h=>b1a l (a6y out x) (c07 out x h)
theorem c34 (l:List Int):l.foldl a6y []=l.mergeSort fun x y=>decide (x≤y):=by
 refine List.Perm.eq_of_pairwise (le:=(·≤·)) (fun a b _ _ h1 h2=>Int.le_antisymm h1 h2) (b1a l [] List.Pairwise.nil) ?_ ?_
 · have:=List.pairwise_mergeSort (le:=fun x y:Int=>decide (x≤y)) (fun a b c h1 h2=>by simp at *;omega) (fun a b=>by simp;omega) l
   exact this.imp fun h=>by simpa using h
 · have:=a6x l []
   rw [List.append_nil] at this
   exact this.trans (List.mergeSort_perm l _).symm
def a00 (l:List LReport):List Int:=l.map fun r=>r.id
def a6w (p:LPipe):List Int:=p.channels.flatMap fun c=>a00 c.queue.items
def b1d (cs:List LChannel):List Int:=cs.foldl (fun o c=>(a00 c.queue.items).foldl a6y o) []
theorem b7u (cs:List LChannel) (k:Nat) (h:k < cs.length):b1d (cs.take (k+1))=(a00 cs[k].queue.items).foldl a6y (b1d (cs.take k)):=by
 unfold b1d
 rw [List.take_add_one,List.getElem?_eq_getElem h,List.foldl_append];rfl
theorem b7v (p:LPipe):b1d p.channels=(a6w p).mergeSort fun x y=>decide (x≤y):=by
 rw [← c34]
 unfold b1d a6w
 generalize ([]:List Int)=o
 generalize p.channels=cs
 induction cs generalizing o with
 | nil=>rfl
 | cons c cs ih=>rw [List.foldl_cons,List.flatMap_cons,List.foldl_append,ih]
end Go.KP
end
