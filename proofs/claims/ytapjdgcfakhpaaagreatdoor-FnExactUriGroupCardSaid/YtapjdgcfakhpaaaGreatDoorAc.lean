/- Ac: merged out of KPa, KPb, KPc, KPd, KPe, KPf, KPg, KPh, KPi, KPj, KPk, KPl, KPm, KQa, KRa, KLa, KRb, KRc, KPu. -/
import Derived.Test.YtapjdgcfakhpaaaGreatDoorPWv
set_option linter.unusedSectionVars false
set_option linter.unusedSimpArgs false
set_option linter.unusedVariables false
section
namespace Go.KP
abbrev Tx:=List UInt8
def v6 (c:UInt8):Bool:=decide (97≤c.toNat∧c.toNat≤122)
def u3 (c:UInt8):Bool:=decide (48≤c.toNat∧c.toNat≤57)
def b40 (c:UInt8):UInt8:=if 65≤c.toNat∧c.toNat≤90 then c+32 else c
def B2 (t:Tx):Tx:=t.map b40
def l8 (t:Tx) (c:UInt8):Nat:=t.findIdx (· == c)
def T0 (t wo:Tx):Bool:=t.all fun c=>decide (33≤c.toNat∧c.toNat≤126) && !decide (c∈wo)
def a31:Tx:=[104,116,116,112]
def a54:Tx:=[104,116,116,112,115]
def W5 (s:Tx):Bool:=s == a31 || s == a54
def O9 (c:UInt8):Bool:=v6 c || u3 c || decide (c.toNat=45∨c.toNat=43∨c.toNat=46)
def a1j (t:Tx):Bool:=(t.take 1).all v6 && t.all O9
def N9 (t:Tx):Bool:=decide (1≤t.length∧t.length≤12) && a1j t
def N6:Bool→Tx→Bool
 | last,[]=>!last
 | last,c :: r=>if !(v6 c || u3 c) && (last || !decide (c.toNat=45∨c.toNat=46)) then false else N6 (!(v6 c || u3 c)) r
def Y6 (t:Tx):Bool:=N6 true t
def V3 (s:Tx):Int:=if s=a31 then 80 else 443
def a0o (n:Nat):Tx:=if h:n < 10 then [UInt8.ofNat (48+n)] else a0o (n / 10)++[UInt8.ofNat (48+n % 10)]
termination_by n
decreasing_by omega
theorem b45 (t:Tx) (c:UInt8) (i:Nat) (hi:i≤t.length) (h:∀ k,k < i→t.getD k 0≠c) (h':i=t.length∨t.getD i 0=c):l8 t c=i:=by
 unfold l8
 by_cases hl:i < t.length
 · rw [List.findIdx_eq hl]
   refine ⟨?_,fun j hj=>?_⟩
   · rcases h' with h' | h'
     · omega
     · simpa [List.getD_eq_getElem?_getD,List.getElem?_eq_getElem hl] using h'
   · have:=h j hj
     have hjl:j < t.length:=by omega
     simpa [List.getD_eq_getElem?_getD,List.getElem?_eq_getElem hjl] using this
 · have e:i=t.length:=by omega
   subst e
   rw [List.findIdx_eq_length]
   intro x hx
   obtain ⟨j,hj,rfl⟩:=List.getElem_of_mem hx
   have:=h j hj
   simpa [List.getD_eq_getElem?_getD,List.getElem?_eq_getElem hj] using this
theorem W1 (t:Tx) (c:UInt8):l8 t c≤t.length:=List.findIdx_le_length
theorem O4 {t:Tx} {c:UInt8}:l8 t c < t.length↔c∈t:=by
 unfold l8
 rw [List.findIdx_lt_length]
 constructor
 · rintro ⟨x,hx,h⟩;have:x=c:=by simpa using h
   exact this ▸ hx
 · intro h;exact ⟨c,h,by simp⟩
theorem a2f {α:Type} (t:List α) (i:Nat) (d:α) (h:i < t.length):t.getD i d=t[i]:=by simp [List.getD_eq_getElem?_getD,List.getElem?_eq_getElem h]
theorem b1s {α:Type} (t:List α) (i:Nat) (d:α) (h:i < t.length):t.take (i+1)=t.take i++[t.getD i d]:=by
 rw [List.take_add_one,List.getElem?_eq_getElem h,a2f t i d h];rfl
theorem Y1 {n:Nat} (h:n < 10):a0o n=[UInt8.ofNat (48+n)]:=by rw [a0o];simp [h]
theorem a1q {n:Nat} (h:¬ n < 10):a0o n=a0o (n / 10)++[UInt8.ofNat (48+n % 10)]:=by rw [a0o];simp [h]
theorem c15 (n:Nat):(a0o n).length≤n+1:=by
 induction n using Nat.strongRecOn with
 | ind n ih=>
  by_cases h:n < 10
  · rw [Y1 h];simp
  · rw [a1q h]
    have:=ih (n / 10) (by omega)
    simp;omega
theorem a1y:∀ (k n:Nat),n < 10 ^ (k+1)→(a0o n).length≤k+1
 | 0,n,h=>by rw [Y1 (by simpa using h)];simp
 | k+1,n,h=>by
  by_cases hn:n < 10
  · rw [Y1 hn];simp
  · rw [a1q hn]
    have:=a1y k (n / 10) (by rw [Nat.div_lt_iff_lt_mul (by omega)];rw [Nat.pow_succ] at h;exact h)
    simp;omega
def a23 (n:Int):Tx:=if n < 0 then 45 :: a0o (-n).toNat else a0o n.toNat
def N5 (t:Tx):Nat:=t.foldl (fun n c=>n*10+(c.toNat - 48)) 0
def a02 (neg:Bool) (t:Tx):Bool:=decide (t.length=0∨18 < t.length) || (decide ((t.getD 0 0).toNat=48) && (decide (1 < t.length) || neg))
def Y5 (neg:Bool) (t:Tx):Option Int:=if a02 neg t then none else if t.all u3 then some (if neg then - (N5 t:Int) else (N5 t:Int)) else none
def P5 (t:Tx):Option Int:=match t with
 | []=>none
 | c :: r=>if c=45 then Y5 true r else Y5 false (c :: r)
theorem a5e (t:Tx) (c:UInt8):N5 (t++[c])=N5 t*10+(c.toNat - 48):=by simp [N5]
theorem a9e (t:Tx) (h:t.all u3=true):N5 t < 10 ^ t.length:=by
 have key:∀ (k:Nat) (t:Tx),t.length=k→t.all u3=true→N5 t < 10 ^ t.length:=by
  intro k
  induction k with
  | zero=>intro t ht _;have:t=[]:=List.eq_nil_of_length_eq_zero ht;subst this;decide
  | succ k ih=>
   intro t ht ha
   obtain ⟨r,c,rfl⟩:∃ r c,t=r++[c]:=⟨t.dropLast,t.getLast (by intro e;subst e;simp at ht),(List.dropLast_concat_getLast _).symm⟩
   simp only [List.all_append,Bool.and_eq_true] at ha
   have h1:=ih r (by simpa using ht) ha.1
   have h2:u3 c=true:=by simpa using ha.2
   simp [u3] at h2
   rw [a5e]
   simp only [List.length_append,List.length_singleton,Nat.pow_succ]
   omega
 exact key t.length t rfl h
theorem O0 {α:Type} (t:List α) (p:α→Bool) (i:Nat) (h:i < t.length):(t.take (i+1)).all p=((t.take i).all p && p t[i]):=by
 rw [List.take_add_one,List.getElem?_eq_getElem h,List.all_append];simp
theorem a8d (t:Tx) (i:Nat) (h:i < t.length):a1j (t.take (i+1))=(a1j (t.take i) && (if i=0 then v6 t[i] else O9 t[i])):=by
 unfold a1j
 rw [O0 t _ i h]
 by_cases hi:i=0
 · subst hi
   have:(t.take (0+1)).take 1=[t[0]]:=by
    cases t with
    | nil=>simp at h
    | cons c r=>simp
   rw [this]
   simp [O9]
   cases v6 t[0]<;>simp
 · have e1:(t.take (i+1)).take 1=t.take 1:=by rw [List.take_take,Nat.min_eq_left (by omega)]
   have e2:(t.take i).take 1=t.take 1:=by rw [List.take_take,Nat.min_eq_left (by omega)]
   rw [e1,e2]
   simp [hi,Bool.and_assoc]
theorem a6w (t:Tx) (i:Nat) (h:i < t.length) (hb:(if i=0 then v6 t[i] else O9 t[i])=false):a1j t=false:=by
 unfold a1j
 by_cases hi:i=0
 · subst hi
   rw [if_pos rfl] at hb
   cases t with
   | nil=>simp at h
   | cons c r=>simp at hb;simp [hb]
 · rw [if_neg hi] at hb
   have:t.all O9=false:=by rw [List.all_eq_false];exact ⟨t[i],List.getElem_mem h,by simp [hb]⟩
   simp [this]
structure LUrl where
 scheme:Tx
 user:Tx
 host:Tx
 port:Int
 path:Tx
 query:Tx
 frag:Tx
 hasQ:Bool
 hasF:Bool
def LUrl.Small (u:LUrl):Prop:=u.scheme.length < 1099511627776∧u.user.length < 1099511627776∧u.host.length < 1099511627776∧u.path.length < 1099511627776∧u.query.length < 1099511627776∧u.frag.length < 1099511627776∧u.port≤9223372036854775807
def Z8 (p:Int):Tx:=if 0 < p then 58 :: a0o p.toNat else []
theorem b6w (p:Int) (h:p≤9223372036854775807):(Z8 p).length≤20:=by
 unfold Z8
 split
 · have:=a1y 18 p.toNat (by omega)
   simp;omega
 · simp
def b85 (u:LUrl):Tx:=u.scheme++[58,47,47]++u.host++Z8 u.port
def V7 (u:LUrl):Tx:=
 if W5 u.scheme then
  u.scheme++[58,47,47]++(if u.user=[] then [] else u.user++[64])++(u.host++Z8 u.port++u.path)++(if u.hasQ then 63 :: u.query else [])++(if u.hasF then 35 :: u.frag else [])
 else u.scheme++[58]++u.path
def H9 (u:LUrl):Bool:=
 N9 u.scheme && (u.hasQ || decide (u.query=[])) && (u.hasF || decide (u.frag=[])) && T0 u.path [63,35] && T0 u.query [35] && T0 u.frag [] && decide ((V7 u).length≤100) &&
 (if W5 u.scheme then T0 u.user [47,63,35,64] && Y6 u.host && decide (0≤u.port∧u.port≤65535) && decide (u.port≠V3 u.scheme) && decide (0 < u.path.length) && decide ((u.path.getD 0 0).toNat=47)
  else decide (u.user=[]) && decide (u.host=[]) && decide (u.port=0) && !u.hasQ && !u.hasF)
end Go.KP
end
section
namespace Go.KP
def f8 (t:Tx) (c:UInt8):Tx:=t.take (l8 t c)
def k8 (t:Tx) (c:UInt8):Tx:=t.drop (l8 t c+1)
theorem X0 {t:Tx} {c:UInt8} (h:c∉t):f8 t c=t:=by
 unfold f8
 have h1:=W1 t c
 have h2:¬ l8 t c < t.length:=fun h'=>h (O4.1 h')
 rw [show l8 t c=t.length by omega,List.take_length]
theorem a6c {t:Tx} {c:UInt8} (h:c∉t):k8 t c=[]:=by
 unfold k8
 have h2:¬ l8 t c < t.length:=fun h'=>h (O4.1 h')
 exact List.drop_eq_nil_of_le (by omega)
theorem B4 (t:Tx) (c:UInt8):(f8 t c).length≤t.length:=by unfold f8;simp;omega
theorem T1 (t:Tx) (c:UInt8):(k8 t c).length≤t.length:=by unfold k8;simp
def LUrl.zero:LUrl:=⟨[],[],[],0,[],[],[],false,false⟩
def Z0 (sc r:Tx):Option Int:=
 if 58∈r then
  match P5 (k8 r 58) with
  | some n=>if 1≤n∧n≤65535 then some (if n=V3 sc then 0 else n) else none
  | none=>none
 else some 0
def a2x (sc r0:Tx):LUrl×Bool:=
 let r1:=f8 r0 35
 let r2:=f8 r1 63
 let r3:=f8 r2 47
 let r4:=if 64∈r3 then k8 r3 64 else r3
 match Z0 sc r4 with
 | none=>(LUrl.zero,false)
 | some p=>
  let u:LUrl:=⟨sc,if 64∈r3 then f8 r3 64 else [],B2 (f8 r4 58),p,if 47∈r2 then r2.drop (l8 r2 47) else [47],k8 r1 63,k8 r0 35,decide (63∈r1),decide (35∈r0)⟩
  (u,H9 u)
def A9 (t:Tx):LUrl×Bool:=
 if 58∈t then
  let sc:=B2 (f8 t 58)
  let rest:=k8 t 58
  if W5 sc then
   if rest.take 2=[47,47] then a2x sc (rest.drop 2) else (LUrl.zero,false)
  else
   let u:LUrl:=⟨sc,[],[],0,f8 (f8 rest 35) 63,[],[],false,false⟩
   (u,H9 u)
 else (LUrl.zero,false)
structure LTarget where
 url:Tx
 prio:Int
 weight:Int
 deriving DecidableEq
structure LPeer where
 target:LTarget
 fails:Int
 retry:Int
 gone:Bool
 deriving DecidableEq
end Go.KP
end
section
namespace Go.KP
def I2 (t:Tx):Bool:=t.all fun c=>decide (33≤c.toNat∧c.toNat≤126)
def B3 (t wo:Tx):Bool:=t.any fun c=>decide (c∈wo)
theorem c11 (t wo:Tx):T0 t wo=(I2 t && !B3 t wo):=by
 unfold T0 I2 B3
 induction t with
 | nil=>rfl
 | cons c r ih=>
  simp only [List.all_cons,List.any_cons,ih]
  cases decide (33≤c.toNat∧c.toNat≤126)<;>cases decide (c∈wo)<;>simp
theorem b96 (t:Tx):T0 t []=I2 t:=by simp [T0,I2]
theorem a5r (a b:Tx):I2 (a++b)=(I2 a && I2 b):=by simp [I2]
theorem a32:∀ (t:Tx) (last:Bool),N6 last t=true→I2 t=true
 | [],_,_=>rfl
 | c :: r,last,h=>by
  simp only [N6] at h
  split at h
  · cases h
  · rename_i hc
    have ih:=a32 r _ h
    have hh:I2 (c :: r)=(decide (33≤c.toNat∧c.toNat≤126) && I2 r):=rfl
    rw [hh,ih]
    simp [v6,u3] at hc ⊢
    omega
theorem b43 {t:Tx} (h:Y6 t=true):I2 t=true:=a32 t _ h
def a0q (p:Int):Tx:=if p=0 then [] else 58 :: a23 p
def a0p (u:LUrl):Tx:=
 if W5 u.scheme then
  u.scheme++[58,47,47]++(if u.user=[] then [] else u.user++[64])++u.host++a0q u.port++u.path++(if u.hasQ then 63 :: u.query else [])++(if u.hasF then 35 :: u.frag else [])
 else u.scheme++[58]++u.path
theorem b5c {u:LUrl} (h:0≤u.port):a0p u=V7 u:=by
 unfold a0p V7
 split
 · have:a0q u.port=Z8 u.port:=by
    unfold a0q Z8 a23
    by_cases h0:u.port=0
    · simp [h0]
    · have g1:0 < u.port:=by omega
      have g2:¬ u.port < 0:=by omega
      simp only [h0,g1,g2,if_true,if_false]
   rw [this];simp
 · rfl
def a7v (u:LUrl):Bool:=
 N9 u.scheme && decide (u.user.length+u.host.length+u.path.length+u.query.length+u.frag.length≤100) && decide ((a0p u).length≤100) && I2 (u.user++u.host++u.path++u.query++u.frag) && !B3 u.path [63,35] &&
 (if W5 u.scheme then !B3 u.user [47,63,35,64] && Y6 u.host && decide (0≤u.port∧u.port≤65535) && decide (u.port≠V3 u.scheme) && decide (0 < u.path.length) && decide ((u.path.getD 0 0).toNat=47) && !B3 u.query [35] && (u.hasQ || decide (u.query=[])) && (u.hasF || decide (u.frag=[]))
  else decide (u.user=[]) && decide (u.host=[]) && decide (u.port=0) && decide (u.query=[]) && decide (u.frag=[]) && !u.hasQ && !u.hasF)
theorem c0c (u:LUrl):a7v u=H9 u:=by
 by_cases hp:0≤u.port
 · unfold a7v H9
   rw [b5c hp]
   simp only [c11,b96,a5r]
   by_cases hw:W5 u.scheme=true
   · rw [if_pos hw,if_pos hw]
     rw [Bool.eq_iff_iff]
     have hl:(V7 u).length=u.scheme.length+3+(if u.user=[] then 0 else u.user.length+1)+(u.host.length+(Z8 u.port).length+u.path.length)+(if u.hasQ then u.query.length+1 else 0)+(if u.hasF then u.frag.length+1 else 0):=by
      unfold V7
      rw [if_pos hw]
      simp only [List.length_append]
      congr 1
      · congr 1
        · congr 1
          congr 1
          split<;>simp
        · split<;>simp
      · split<;>simp
     constructor
     · intro h
       simp only [Bool.and_eq_true,Bool.or_eq_true,decide_eq_true_eq,Bool.not_eq_true'] at h ⊢
       obtain ⟨⟨⟨⟨⟨h1,h2⟩,h3⟩,h4⟩,h5⟩,h6⟩:=h
       obtain ⟨⟨⟨⟨⟨⟨⟨⟨a1,a2⟩,a3⟩,a4⟩,a5⟩,a6⟩,a7⟩,a8⟩,a9⟩:=h6
       obtain ⟨⟨⟨⟨b1,b2⟩,b3⟩,b4⟩,b5⟩:=h4
       exact ⟨⟨⟨⟨⟨⟨⟨h1,a8⟩,a9⟩,b3,h5⟩,b4,a7⟩,b5,by simp [B3]⟩,h3⟩,⟨⟨⟨⟨⟨b1,a1⟩,a2⟩,a3⟩,a4⟩,a5⟩,a6⟩
     · intro h
       simp only [Bool.and_eq_true,Bool.or_eq_true,decide_eq_true_eq,Bool.not_eq_true'] at h ⊢
       obtain ⟨⟨⟨⟨⟨⟨⟨c1,c2⟩,c3⟩,c4⟩,c5⟩,c6⟩,c7⟩,c8⟩:=h
       obtain ⟨⟨⟨⟨⟨d1,d2⟩,d3⟩,d4⟩,d5⟩,d6⟩:=c8
       have e:=b43 d2
       refine ⟨⟨⟨⟨⟨c1,?_⟩,c7⟩,?_⟩,c4.2⟩,⟨⟨⟨⟨⟨⟨⟨⟨d1.2,d2⟩,d3⟩,d4⟩,d5⟩,d6⟩,c5.2⟩,c2⟩,c3⟩⟩
       · have q1:u.query.length≤(if u.hasQ then u.query.length+1 else 0):=by
          rcases c2 with h | h
          · rw [h];simp
          · rw [h];simp
         have q2:u.frag.length≤(if u.hasF then u.frag.length+1 else 0):=by
          rcases c3 with h | h
          · rw [h];simp
          · rw [h];simp
         have q3:u.user.length≤(if u.user=[] then 0 else u.user.length+1):=by
          split
          · rename_i h;rw [h];simp
          · omega
         omega
       · exact ⟨⟨⟨⟨d1.1,e⟩,c4.1⟩,c5.1⟩,c6.1⟩
   · rw [if_neg hw,if_neg hw]
     rw [Bool.eq_iff_iff]
     have hl:(V7 u).length=u.scheme.length+1+u.path.length:=by
      unfold V7
      rw [if_neg hw]
      simp;omega
     constructor
     · intro h
       simp only [Bool.and_eq_true,Bool.or_eq_true,decide_eq_true_eq,Bool.not_eq_true'] at h ⊢
       obtain ⟨⟨⟨⟨⟨h1,h2⟩,h3⟩,h4⟩,h5⟩,⟨⟨⟨⟨⟨⟨a1,a2⟩,a3⟩,a4⟩,a5⟩,a6⟩,a7⟩⟩:=h
       obtain ⟨⟨⟨⟨b1,b2⟩,b3⟩,b4⟩,b5⟩:=h4
       have e:B3 u.frag []=false:=by simp [B3]
       have e2:B3 u.query [35]=false:=by rw [a4];rfl
       refine ⟨⟨⟨⟨⟨⟨⟨h1,.inr a4⟩,.inr a5⟩,b3,h5⟩,b4,e2⟩,b5,by simp [B3]⟩,h3⟩,⟨⟨⟨⟨a1,a2⟩,a3⟩,a6⟩,a7⟩⟩
     · intro h
       simp only [Bool.and_eq_true,Bool.or_eq_true,decide_eq_true_eq,Bool.not_eq_true'] at h ⊢
       obtain ⟨⟨⟨⟨⟨⟨⟨c1,c2⟩,c3⟩,c4⟩,c5⟩,c6⟩,c7⟩,⟨⟨⟨⟨d1,d2⟩,d3⟩,d4⟩,d5⟩⟩:=h
       have q:u.query=[]:=by rcases c2 with h | h;(rw [d4] at h;cases h);exact h
       have f:u.frag=[]:=by rcases c3 with h | h;(rw [d5] at h;cases h);exact h
       refine ⟨⟨⟨⟨⟨c1,?_⟩,c7⟩,?_⟩,c4.2⟩,⟨⟨⟨⟨⟨⟨d1,d2⟩,d3⟩,q⟩,f⟩,d4⟩,d5⟩⟩
       · simp [d1,d2,q,f];omega
       · refine ⟨⟨⟨⟨?_,?_⟩,c4.1⟩,c5.1⟩,c6.1⟩<;>simp [d1,d2,I2]
 · have e1:a7v u=false:=by
    unfold a7v
    have h1:decide (0≤u.port∧u.port≤65535)=false:=by simp;omega
    have h2:decide (u.port=0)=false:=by simp;omega
    simp [h1,h2]
   have e2:H9 u=false:=by
    unfold H9
    have h1:decide (0≤u.port∧u.port≤65535)=false:=by simp;omega
    have h2:decide (u.port=0)=false:=by simp;omega
    simp [h1,h2]
   rw [e1,e2]
end Go.KP
end
section
namespace Go.KP
theorem b16 {t:Tx} (h:(A9 t).2=true):H9 (A9 t).1=true:=by
 unfold A9 a2x at h ⊢
 split at h
 · rename_i h1
   rw [if_pos h1]
   dsimp only at h ⊢
   split at h
   · rename_i h2
     rw [if_pos h2]
     split at h
     · rename_i h3
       rw [if_pos h3]
       split at h
       · cases h
       · exact h
     · cases h
   · rename_i h2
     rw [if_neg h2]
     exact h
 · cases h
theorem b4v {u:LUrl} (h:H9 u=true):0≤u.port:=by
 unfold H9 at h
 simp only [Bool.and_eq_true] at h
 obtain ⟨_,h⟩:=h
 split at h
 · simp only [Bool.and_eq_true,decide_eq_true_eq] at h
   exact h.1.1.1.2.1
 · simp only [Bool.and_eq_true,decide_eq_true_eq] at h
   omega
theorem b68 {u:LUrl} (h:H9 u=true):(V7 u).length≤100:=by
 unfold H9 at h
 simp only [Bool.and_eq_true,decide_eq_true_eq] at h
 exact h.1.2
theorem b0g:∀ (n:Nat),(a0o n).all u3=true:=by
 intro n
 induction n using Nat.strongRecOn with
 | ind n ih=>
  by_cases h:n < 10
  · rw [Y1 h]
    simp [u3]
    omega
  · rw [a1q h,List.all_append,ih (n / 10) (by omega)]
    simp [u3]
    omega
def a1z (t:Tx):Option Tx:=
 if t.length≤65536 then
  if (A9 t).2 && W5 (A9 t).1.scheme then some (a0p { (A9 t).1 with frag:=[],hasF:=false }) else none
 else none
end Go.KP
end
section
namespace Go.KP
theorem b2k (k:Nat) (h:k < 10):(UInt8.ofNat (48+k)).toNat=48+k:=by
 rw [UInt8.toNat_ofNat'];omega
theorem b15 (n:Nat):N5 (a0o n)=n:=by
 induction n using Nat.strongRecOn with
 | ind n ih=>
  by_cases h:n < 10
  · rw [Y1 h]
    have:=b2k n h
    simp only [N5,List.foldl_cons,List.foldl_nil,this];omega
  · rw [a1q h,a5e,ih (n / 10) (by omega),b2k _ (by omega)]
    omega
theorem b3c (n:Nat):a0o n≠[]:=by
 by_cases h:n < 10
 · rw [Y1 h];simp
 · rw [a1q h];simp
theorem c0b (n:Nat) (h0:n≠0):((a0o n).getD 0 0).toNat≠48:=by
 induction n using Nat.strongRecOn with
 | ind n ih=>
  by_cases h:n < 10
  · rw [Y1 h]
    have:=b2k n h
    simp only [List.getD_cons_zero,this];omega
  · rw [a1q h]
    have h1:=ih (n / 10) (by omega) (by omega)
    cases hl:a0o (n / 10) with
    | nil=>exact absurd hl (b3c _)
    | cons c r=>rw [hl] at h1;simpa using h1
theorem a8n {c:UInt8} (h:u3 c=true):UInt8.ofNat (48+(c.toNat - 48))=c:=by
 simp only [u3,decide_eq_true_eq] at h
 apply UInt8.toNat_inj.1
 rw [b2k _ (by omega)];omega
theorem c0a:∀ (k:Nat) (t:Tx),t.length=k→t≠[]→t.all u3=true→((t.getD 0 0).toNat=48→t.length=1)→a0o (N5 t)=t:=by
 intro k
 induction k with
 | zero=>intro t ht h;exact absurd (List.eq_nil_of_length_eq_zero ht) h
 | succ k ih=>
  intro t ht hne ha hz
  obtain ⟨r,c,rfl⟩:∃ r c,t=r++[c]:=⟨t.dropLast,t.getLast hne,(List.dropLast_concat_getLast _).symm⟩
  simp only [List.all_append,Bool.and_eq_true] at ha
  have hc:u3 c=true:=by simpa using ha.2
  have hc':=hc
  simp only [u3,decide_eq_true_eq] at hc'
  rw [a5e]
  cases r with
  | nil=>
   rw [show N5 []*10+(c.toNat - 48)=c.toNat - 48 by simp [N5]]
   rw [Y1 (by omega),a8n hc];rfl
  | cons d r=>
   have hd:d.toNat≠48:=fun e=>by
    have:=hz (by simpa using e)
    simp at this
   have hi:=ih (d :: r) (by simpa using ht) (by simp) ha.1 (fun e=>absurd (by simpa using e) hd)
   have hpos:N5 (d :: r)≠0:=fun e=>by
    rw [e,Y1 (by omega)] at hi
    have h2:UInt8.ofNat 48=d:=by simpa using (List.cons.inj hi).1
    exact hd (by rw [← h2];rfl)
   rw [a1q (by omega)]
   have e1:(N5 (d :: r)*10+(c.toNat - 48)) / 10=N5 (d :: r):=by omega
   have e2:(N5 (d :: r)*10+(c.toNat - 48)) % 10=c.toNat - 48:=by omega
   rw [e1,e2,hi,a8n hc]
def T4 (t:Tx):Nat:=match t with
 | []=>0
 | c :: r=>if c=45 then r.length else (c :: r).length
theorem a8h (neg:Bool) (n:Nat) (h18:(a0o n).length≤18) (hn:neg=true→n≠0):a02 neg (a0o n)=false:=by
 unfold a02
 have h1:(a0o n).length≠0:=fun e=>b3c n (List.eq_nil_of_length_eq_zero e)
 by_cases h0:n=0
 · subst h0
   cases neg with
   | true=>exact absurd rfl (hn rfl)
   | false=>rw [Y1 (by omega)];simp
 · have h2:=c0b n h0
   have e1:decide ((a0o n).length=0∨18 < (a0o n).length)=false:=by simp only [decide_eq_false_iff_not];omega
   have e2:decide (((a0o n).getD 0 0).toNat=48)=false:=by simp only [decide_eq_false_iff_not];exact h2
   rw [e1,e2];rfl
theorem b3a (n:Int) (h:T4 (a23 n)≤18):P5 (a23 n)=some n:=by
 unfold a23 at h ⊢
 by_cases h0:n < 0
 · rw [if_pos h0] at h ⊢
   have h':(a0o (-n).toNat).length≤18:=by simpa [T4] using h
   simp only [P5,if_true,Y5]
   rw [a8h true _ h' (fun _=>by omega),if_neg (by simp),if_pos (b0g _),b15]
   simp;omega
 · rw [if_neg h0] at h ⊢
   cases hl:a0o n.toNat with
   | nil=>exact absurd hl (b3c _)
   | cons c r=>
    have hd:=b0g n.toNat
    rw [hl] at hd h
    have hc:c≠45:=fun e=>by subst e;simp [u3] at hd
    have h':(a0o n.toNat).length≤18:=by rw [hl];simpa [T4,hc] using h
    simp only [P5,hc,if_false]
    rw [← hl]
    simp only [Y5]
    rw [a8h false _ h' (fun e=>by cases e),if_neg (by simp),if_pos (b0g _),b15]
    simp;omega
theorem a3q {t:Tx} {n:Int} (h:P5 t=some n):a23 n=t∧T4 t≤18 ∧
 ∃ u:Tx,u≠[]∧u.all u3=true∧u.length≤18∧((t=45 :: u∧n=-(N5 u:Int))∨(t=u∧n=N5 u)):=by
 have key:∀ (neg:Bool) (u:Tx),Y5 neg u=some n→u≠[]∧u.length≤18∧u.all u3=true∧a0o (N5 u)=u∧(neg=true→N5 u≠0)∧n=(if neg then - (N5 u:Int) else (N5 u:Int)):=by
  intro neg u hu
  unfold Y5 at hu
  split at hu
  · cases hu
  · rename_i hb
    split at hu
    · rename_i ha
      have hn:=(Option.some.inj hu).symm
      have hb':a02 neg u=false:=by simpa using hb
      unfold a02 at hb'
      rw [Bool.or_eq_false_iff] at hb'
      obtain ⟨q1,q2⟩:=hb'
      rw [decide_eq_false_iff_not] at q1
      have hne:u≠[]:=fun e=>q1 (by rw [e];simp)
      have hz:(u.getD 0 0).toNat=48→u.length=1∧neg=false:=fun e=>by
       rw [Bool.and_eq_false_iff] at q2
       rcases q2 with q2 | q2
       · simp only [decide_eq_false_iff_not] at q2;exact absurd e q2
       · rw [Bool.or_eq_false_iff,decide_eq_false_iff_not] at q2
         have:u.length≠0:=fun e=>hne (List.eq_nil_of_length_eq_zero e)
         exact ⟨by omega,q2.2⟩
      have hl:=c0a u.length u rfl hne ha (fun e=>(hz e).1)
      refine ⟨hne,by omega,ha,hl,fun hneg h0=>?_,hn⟩
      rw [h0,Y1 (by omega)] at hl
      have:=(hz (by rw [← hl];rfl)).2
      rw [hneg] at this;cases this
    · cases hu
 unfold P5 at h
 split at h
 · cases h
 · rename_i c r
   split at h
   · rename_i hc
     subst hc
     obtain ⟨h1,h2,h3,h4,h5,h6⟩:=key true r h
     simp only [if_true] at h6
     have h5':=h5 rfl
     refine ⟨?_,by simpa [T4] using h2,r,h1,h3,h2,.inl ⟨rfl,h6⟩⟩
     unfold a23
     rw [if_pos (by omega),h6]
     rw [show (- -(N5 r:Int)).toNat=N5 r by omega,h4]
   · rename_i hc
     obtain ⟨h1,h2,h3,h4,h5,h6⟩:=key false (c :: r) h
     have h6:n=(N5 (c :: r):Int):=h6
     refine ⟨?_,by simpa [T4,hc] using h2,c :: r,h1,h3,h2,.inr ⟨rfl,h6⟩⟩
     unfold a23
     rw [if_neg (by omega),h6]
     rw [show ((N5 (c :: r):Int)).toNat=N5 (c :: r) by omega,h4]
end Go.KP
end
section
namespace Go.KP
theorem b26 {t:Tx} (ht:t.length < 1099511627776):(A9 t).1.Small:=by
 have hz:LUrl.zero.Small:=by simp [LUrl.Small,LUrl.zero]
 have hA:∀ (t:Tx) c,(f8 t c).length≤t.length:=B4
 have hB:∀ (t:Tx) c,(k8 t c).length≤t.length:=T1
 unfold A9
 split
 · have h1:(B2 (f8 t 58)).length≤t.length:=by have:=hA t 58;simpa [B2] using this
   have h2:=hB t 58
   dsimp only
   split
   · split
     · unfold a2x
       dsimp only
       have h3:((k8 t 58).drop 2).length≤t.length:=by simp;omega
       generalize (k8 t 58).drop 2=r0 at h3
       have h4:=hA r0 35
       have h4':=hB r0 35
       generalize f8 r0 35=r1 at h4
       have h5:=hA r1 63
       have h5':=hB r1 63
       generalize f8 r1 63=r2 at h5
       have h6:=hA r2 47
       generalize f8 r2 47=r3 at h6
       have h7:=hA r3 64
       have h7':(if 64∈r3 then k8 r3 64 else r3).length≤r3.length:=by
        split
        · exact hB r3 64
        · omega
       generalize (if 64∈r3 then k8 r3 64 else r3)=r4 at h7'
       have h8:(B2 (f8 r4 58)).length≤r4.length:=by have:=hA r4 58;simpa [B2] using this
       split
       · exact hz
       · rename_i p hp
         refine ⟨by show (B2 _).length < _;omega,?_,by show (B2 _).length < _;omega,?_,by show (k8 r1 63).length < _;omega,by show (k8 r0 35).length < _;omega,?_⟩
         · show (if 64∈r3 then f8 r3 64 else []).length < _
           split
           · omega
           · simp
         · show (if 47∈r2 then r2.drop (l8 r2 47) else [47]).length < _
           split
           · simp;omega
           · simp
         · show p≤_
           unfold Z0 at hp
           split at hp
           · split at hp
             · split at hp
               · have:=Option.some.inj hp
                 split at this<;>omega
               · cases hp
             · cases hp
           · have:=Option.some.inj hp;omega
     · exact hz
   · have h3:=hA (k8 t 58) 35
     have h4:=hA (f8 (k8 t 58) 35) 63
     refine ⟨by show (B2 _).length < _;omega,by simp,by simp,by show (f8 _ _).length < _;omega,by simp,by simp,by show (0:Int)≤_;omega⟩
 · exact hz
def LTarget.Small (x:LTarget):Prop:=x.url.length < 1099511627776
end Go.KP
end
section
namespace Go.KP
def LUrl.Tiny (u:LUrl):Prop:=u.scheme.length < 1048577∧u.user.length < 1048577∧u.host.length < 1048577∧u.path.length < 1048577∧u.query.length < 1048577∧u.frag.length < 1048577∧(0≤u.port∧u.port≤65535)
theorem b4y {t:Tx} (ht:t.length < 1048577):(A9 t).1.Tiny:=by
 have hz:LUrl.zero.Tiny:=by simp [LUrl.Tiny,LUrl.zero]
 have hA:∀ (t:Tx) c,(f8 t c).length≤t.length:=B4
 have hB:∀ (t:Tx) c,(k8 t c).length≤t.length:=T1
 unfold A9
 split
 · have h1:(B2 (f8 t 58)).length≤t.length:=by have:=hA t 58;simpa [B2] using this
   have h2:=hB t 58
   dsimp only
   split
   · split
     · unfold a2x
       dsimp only
       have h3:((k8 t 58).drop 2).length≤t.length:=by simp;omega
       generalize (k8 t 58).drop 2=r0 at h3
       have h4:=hA r0 35
       have h4':=hB r0 35
       generalize f8 r0 35=r1 at h4
       have h5:=hA r1 63
       have h5':=hB r1 63
       generalize f8 r1 63=r2 at h5
       have h6:=hA r2 47
       generalize f8 r2 47=r3 at h6
       have h7:=hA r3 64
       have h7':(if 64∈r3 then k8 r3 64 else r3).length≤r3.length:=by
        split
        · exact hB r3 64
        · omega
       generalize (if 64∈r3 then k8 r3 64 else r3)=r4 at h7'
       have h8:(B2 (f8 r4 58)).length≤r4.length:=by have:=hA r4 58;simpa [B2] using this
       split
       · exact hz
       · rename_i p hp
         refine ⟨by show (B2 _).length < _;omega,?_,by show (B2 _).length < _;omega,?_,by show (k8 r1 63).length < _;omega,by show (k8 r0 35).length < _;omega,?_⟩
         · show (if 64∈r3 then f8 r3 64 else []).length < _
           split
           · omega
           · simp
         · show (if 47∈r2 then r2.drop (l8 r2 47) else [47]).length < _
           split
           · simp;omega
           · simp
         · show 0≤p∧p≤65535
           unfold Z0 at hp
           split at hp
           · split at hp
             · split at hp
               · have:=Option.some.inj hp
                 split at this<;>omega
               · cases hp
             · cases hp
           · have:=Option.some.inj hp;omega
     · exact hz
   · have h3:=hA (k8 t 58) 35
     have h4:=hA (f8 (k8 t 58) 35) 63
     refine ⟨by show (B2 _).length < _;omega,by simp,by simp,by show (f8 _ _).length < _;omega,by simp,by simp,by show (0:Int)≤0∧(0:Int)≤65535;omega⟩
 · exact hz
end Go.KP
end
section
namespace Go.KP
def c1z (now:Int) (x:LPeer):Bool:=!x.gone && decide (x.retry≤now)
def chMatch (now b:Int) (x:LPeer):Bool:=c1z now x && decide (x.target.prio=b)
def chSum (now b:Int):List LPeer→Int
 | []=>0
 | x :: l=>(if chMatch now b x then x.target.weight else 0)+chSum now b l
structure ChInv (now:Int) (l:List LPeer) (a:Int×Int):Prop where
 lo:0≤a.2
 hi:a.2≤9*l.length
 sum:a.2=if a.2=0 then 0 else chSum now a.1 l
 low:∀ x∈l,c1z now x=true→a.1≤x.target.prio∧0 < a.2
 nine:a.2≠0→1≤a.1∧a.1≤9
end Go.KP
end
section
namespace Go.KP
def b1f (k:Nat) (out:Tx):Tx:=if h:k=0 then out else b1f (k / 10) (UInt8.ofNat (48+k % 10) :: out)
termination_by k
decreasing_by omega
theorem b97 (out:Tx):b1f 0 out=out:=by rw [b1f];simp
theorem c12 {k:Nat} (h:k≠0) (out:Tx):b1f k out=b1f (k / 10) (UInt8.ofNat (48+k % 10) :: out):=by
 conv=>lhs;rw [b1f]
 simp [h]
def lmk (k:Nat):Tx:=if k=0 then [109,48] else 109 :: b1f k []
end Go.KP
end
section
namespace Go.KP
end Go.KP
end
section
namespace Go.KP
def S1 {α:Type} (f:α→Nat) (l:List α):Nat:=(l.map f).sum
def zS {α:Type} (f:α→Nat) (l:List α):Nat:=l.length+S1 f l
def bdS {α:Type} (B:Nat) (p:α→Prop) (l:List α):Prop:=l.length≤B∧∀ x∈l,p x
def cut (left:Int) (n:Nat):Int:=if left - n < 0 then -1 else left - n
theorem U5 {left:Int} {n:Nat} (h:left - n < 0):cut left n=-1:=if_pos h
theorem a09 {left:Int} {n:Nat} (h:¬ left - n < 0):cut left n=left - n:=if_neg h
theorem c0r {left:Int} {n:Nat} (h:¬ cut left n < 0) (h0:0≤left):(n:Int)≤left∧cut left n=left - n:=by
 unfold cut at *
 split at h<;>rename_i h1
 · omega
 · rw [if_neg h1];omega
theorem a7t {α:Type} {f:α→Nat} (l:List α) {i:Nat} (h:i < l.length):S1 f (l.take (i+1))=S1 f (l.take i)+f l[i]:=by
 unfold S1
 rw [List.take_add_one,List.getElem?_eq_getElem h,List.map_append,List.sum_append]
 simp
theorem b25 {α:Type} {f:α→Nat} (l:List α) (i:Nat):S1 f (l.take i)≤S1 f l:=by
 unfold S1
 conv=>rhs;rw [← List.take_append_drop i l]
 rw [List.map_append,List.sum_append]
 omega
theorem c1x {α:Type} {f:α→Nat} {l:List α} {x:α} (h:x∈l):f x≤S1 f l:=by
 unfold S1
 induction l with
 | nil=>cases h
 | cons y l ih=>
  rcases List.mem_cons.1 h with rfl | h
  · simp
  · have:=ih h;simp;omega
theorem b8f {α:Type} {B:Nat} {f:α→Nat} {p:α→Prop} {l:List α} (hp:∀ x,f x≤B→p x) (h:zS f l≤B):bdS B p l:=by
 unfold zS at h
 exact ⟨by omega,fun x hx=>hp x (by have:=c1x (f:=f) hx;omega)⟩
def a42 (B:Nat) (x:LTarget):Prop:=x.url.length≤B
structure LGroup where
 name:Tx
 age:Int
 targets:List LTarget
 deriving DecidableEq
def b3u (B:Nat) (x:LGroup):Prop:=x.name.length≤B∧bdS B (a42 B) x.targets
structure LRule where
 name:Tx
 words:List Tx
 deriving DecidableEq
def T2 (x:LRule):Nat:=x.name.length+zS List.length x.words
def R6 (B:Nat) (x:LRule):Prop:=x.name.length≤B∧bdS B (fun t=>t.length≤B) x.words
theorem c07 {B:Nat} {x:LRule} (h:T2 x≤B):R6 B x:=by
 unfold T2 at h
 unfold R6
 exact ⟨by omega,b8f (fun _ h=>h) (show zS List.length x.words≤B by omega)⟩
structure LPolicy where
 reportTo:Tx
 uris:List Tx
 rules:List LRule
 deriving DecidableEq
def a47 (x:LPolicy):Nat:=x.reportTo.length+zS List.length x.uris+zS T2 x.rules
def M4 (B:Nat) (x:LPolicy):Prop:=x.reportTo.length≤B∧bdS B (fun t=>t.length≤B) x.uris∧bdS B (R6 B) x.rules
theorem b6c {B:Nat} {x:LPolicy} (h:a47 x≤B):M4 B x:=by
 unfold a47 at h
 unfold M4
 exact ⟨by omega,b8f (fun _ h=>h) (show zS List.length x.uris≤B by omega),b8f (fun _ h=>c07 h) (show zS T2 x.rules≤B by omega)⟩
structure LViolation where
 document:Tx
 referrer:Tx
 blocked:Tx
 source:Tx
 directive:Tx
 sample:Tx
 line:Int
 column:Int
 redirected:Bool
 deriving DecidableEq
structure LReport where
 id:Int
 born:Int
 tries:Int
 body:Tx
 deriving DecidableEq
structure LQueue where
 items:List LReport
 recent:List Tx
 deriving DecidableEq
structure LChannel where
 group:LGroup
 peers:List LPeer
 queue:LQueue
 deriving DecidableEq
structure LEntry where
 kind:Int
 id:Int
 at_:Int
 deriving DecidableEq
structure LWire where
 at_:Int
 status:Int
 group:Tx
 url:Tx
 ids:List Int
 body:Tx
 lost:Bool
 deriving DecidableEq
structure LPipe where
 channels:List LChannel
 policy:LPolicy
 now:Int
 next:Int
 log:List LEntry
 wires:List LWire
 deriving DecidableEq
structure LEvent where
 kind:Int
 draw:Int
 status:Int
 ticks:Int
 text:Tx
 name:Tx
 violation:LViolation
 lost:Bool
 deriving DecidableEq
structure LParcel where
 id:Int
 age:Int
 body:Tx
 deriving DecidableEq
structure LBox where
 ids:List Int
 times:List Int
 bodies:List Tx
 deriving DecidableEq
end Go.KP
end
section
namespace Go.KP
def R5 (p q:UInt8→Bool) (t:Tx):Bool:=(t.take 1).all p && t.all q
theorem a0s {p q:UInt8→Bool} (hpq:∀ c,p c=true→q c=true) (t:Tx) (i:Nat) (h:i < t.length):R5 p q (t.take (i+1))=(R5 p q (t.take i) && (if i=0 then p t[i] else q t[i])):=by
 unfold R5
 rw [O0 t _ i h]
 by_cases hi:i=0
 · subst hi
   have:(t.take (0+1)).take 1=[t[0]]:=by
    cases t with
    | nil=>simp at h
    | cons c r=>simp
   rw [this]
   have:=hpq t[0]
   cases hp:p t[0]<;>simp_all
 · have e1:(t.take (i+1)).take 1=t.take 1:=by rw [List.take_take,Nat.min_eq_left (by omega)]
   have e2:(t.take i).take 1=t.take 1:=by rw [List.take_take,Nat.min_eq_left (by omega)]
   rw [e1,e2]
   simp [hi,Bool.and_assoc]
theorem Z1 {p q:UInt8→Bool} (t:Tx) (i:Nat) (h:i < t.length) (hb:(if i=0 then p t[i] else q t[i])=false):R5 p q t=false:=by
 unfold R5
 by_cases hi:i=0
 · subst hi
   rw [if_pos rfl] at hb
   cases t with
   | nil=>simp at h
   | cons c r=>simp at hb;simp [hb]
 · rw [if_neg hi] at hb
   have:t.all q=false:=by rw [List.all_eq_false];exact ⟨t[i],List.getElem_mem h,by simp [hb]⟩
   simp [this]
def isUp (c:UInt8):Bool:=decide (65≤c.toNat∧c.toNat≤90)
def X1 (c:UInt8):Bool:=v6 c || isUp c || decide (c.toNat=95)
def a0z (c:UInt8):Bool:=X1 c || u3 c
def a0d (t:Tx):Bool:=decide (1≤t.length∧t.length≤12) && R5 X1 a0z t
def a0e (c:UInt8):Bool:=v6 c || decide (c.toNat=45)
def Y8 (t:Tx):Bool:=decide (1≤t.length∧t.length≤24) && R5 v6 a0e t
def a2y (l:List Tx):Bool:=decide l.Nodup
theorem b61 (l:List Tx) (x:Tx):(l++[x]).Nodup↔l.Nodup∧x∉l:=by
 rw [List.nodup_append]
 constructor
 · rintro ⟨h1,_,h3⟩
   exact ⟨h1,fun hx=>h3 x hx x (by simp) rfl⟩
 · rintro ⟨h1,h2⟩
   refine ⟨h1,by simp,fun a ha b hb e=>?_⟩
   rw [List.mem_singleton] at hb
   subst hb;subst e
   exact h2 ha
theorem a6a (l:List Tx) (i:Nat) (h:i < l.length):a2y (l.take (i+1))=(a2y (l.take i) && decide (l[i]∉l.take i)):=by
 unfold a2y
 rw [List.take_add_one,List.getElem?_eq_getElem h,Bool.eq_iff_iff,Bool.and_eq_true,decide_eq_true_eq,decide_eq_true_eq,decide_eq_true_eq]
 exact b61 _ _
theorem b4w (l:List Tx) (i:Nat) (h:a2y (l.take i)=false):a2y l=false:=by
 unfold a2y at *
 rw [decide_eq_false_iff_not] at *
 exact fun hn=>h (hn.sublist (List.take_sublist i l))
def a2o {α:Type} (l:List α) (p:α→Bool):Int:=match l.findIdx? p with
 | some i=>i
 | none=>-1
theorem b3b {α:Type} (l:List α) (p:α→Bool):decide (0≤a2o l p)=l.any p:=by
 unfold a2o
 cases h:l.findIdx? p with
 | none=>
  rw [List.findIdx?_eq_none_iff] at h
  rw [Bool.eq_iff_iff]
  simp only [decide_eq_true_eq,List.any_eq_true]
  constructor
  · intro h;omega
  · rintro ⟨x,hx,hp⟩;rw [h x hx] at hp;cases hp
 | some i=>
  rw [List.findIdx?_eq_some_iff_getElem] at h
  obtain ⟨hi,hp,_⟩:=h
  show decide (0≤(i:Int))=_
  rw [decide_eq_true (by omega)]
  symm
  rw [List.any_eq_true]
  exact ⟨l[i],List.getElem_mem hi,hp⟩
theorem a22 {α:Type} {l:List α} {p:α→Bool} {i:Nat} (hi:i < l.length) (hp:p l[i]=true) (h:∀ k (hk:k < i),p (l[k]'(by omega))=false):a2o l p=i:=by
 unfold a2o
 have:l.findIdx? p=some i:=by
  rw [List.findIdx?_eq_some_iff_getElem]
  exact ⟨hi,hp,fun j hj=>by simp [h j hj]⟩
 rw [this]
theorem a2z {α:Type} {l:List α} {p:α→Bool} (h:∀ k (hk:k < l.length),p l[k]=false):a2o l p=-1:=by
 unfold a2o
 have:l.findIdx? p=none:=by
  rw [List.findIdx?_eq_none_iff]
  intro x hx
  obtain ⟨k,hk,rfl⟩:=List.getElem_of_mem hx
  exact h k hk
 rw [this]
theorem a7u {α:Type} (l:List α) (p:α→Bool):(a2o l p=-1∧l.find? p=none)∨∃ i,∃ h:i < l.length,a2o l p=i∧l.find? p=some l[i]:=by
 unfold a2o
 cases h:l.findIdx? p with
 | none=>
  rw [List.findIdx?_eq_none_iff] at h
  exact .inl ⟨rfl,List.find?_eq_none.2 fun x hx=>by simp [h x hx]⟩
 | some i=>
  rw [List.findIdx?_eq_some_iff_getElem] at h
  obtain ⟨hi,hp,hlt⟩:=h
  exact .inr ⟨i,hi,rfl,List.find?_eq_some_iff_getElem.2 ⟨hp,i,hi,rfl,fun j hj=>by simpa using hlt j hj⟩⟩
theorem b98 {α:Type} (f:α→Tx) (l:List α) (i:Nat) (h:i < l.length):a2o l (fun x=>decide (f x=f l[i]))=(i:Int)↔f l[i]∉(l.map f).take i:=by
 constructor
 · intro hl hm
   unfold a2o at hl
   rw [List.mem_take_iff_getElem] at hm
   obtain ⟨k,hk,hke⟩:=hm
   have hk1:k < i:=by omega
   rw [List.getElem_map] at hke
   split at hl
   · rename_i j hj
     have:j=i:=by omega
     subst this
     rw [List.findIdx?_eq_some_iff_getElem] at hj
     have:=hj.2.2 k hk1
     simp [hke] at this
   · omega
 · intro hm
   refine a22 h (by simp) fun k hk=>?_
   rw [decide_eq_false_iff_not]
   intro e
   exact hm (by rw [List.mem_take_iff_getElem];exact ⟨k,by simp;omega,by rw [List.getElem_map];exact e⟩)
theorem a33 {α β:Type} (f:β→α→β) (b:β) (l:List α) (i:Nat) (h:i < l.length):(l.take (i+1)).foldl f b=f ((l.take i).foldl f b) l[i]:=by
 rw [List.take_add_one,List.getElem?_eq_getElem h,List.foldl_append];rfl
def a6d (t:Tx):Option Tx:=
 if (A9 t).2 && W5 (A9 t).1.scheme then some (V7 { (A9 t).1 with frag:=[],hasF:=false }) else none
theorem a66 {t:Tx} {c:UInt8} (h:c∈t):t.length=(f8 t c).length+1+(k8 t c).length:=by
 have:=O4.2 h
 unfold f8 k8
 simp;omega
theorem b42 (t:Tx):(B2 t).length=t.length:=by simp [B2]
theorem b94 {sc r:Tx} {p:Int} (h:Z0 sc r=some p):r.length≤(f8 r 58).length+21:=by
 unfold Z0 at h
 split at h
 · rename_i hm
   rw [a66 hm]
   split at h
   · rename_i n hn
     obtain ⟨_,_,u,_,_,h3,h4⟩:=a3q hn
     rcases h4 with ⟨h4,_⟩ | ⟨h4,_⟩
     · rw [h4];simp;omega
     · rw [h4];omega
   · cases h
 · rename_i hm
   rw [X0 hm];omega
theorem b69 {t:Tx} (h:(A9 t).2=true) (hw:W5 (A9 t).1.scheme=true):t.length≤200:=by
 have hok:=b16 h
 have hlen:=b68 hok
 unfold A9 at h hw hlen
 split at h
 · rename_i h58
   rw [if_pos h58] at hw hlen
   dsimp only at h hw hlen
   split at h
   · rename_i hsc
     rw [if_pos hsc] at hw hlen
     split at h
     · rename_i h2
       rw [if_pos h2] at hw hlen
       rw [a66 h58]
       have hr:(k8 t 58).length≤2+((k8 t 58).drop 2).length:=by simp;omega
       have hscl:=b42 (f8 t 58)
       generalize (k8 t 58).drop 2=r0 at *
       generalize B2 (f8 t 58)=sc at *
       unfold a2x at h hw hlen
       dsimp only at h hw hlen
       have k0:r0.length≤(f8 r0 35).length+(if 35∈r0 then 1+(k8 r0 35).length else 0):=by
        split
        · rename_i hm;rw [a66 hm];omega
        · rename_i hm;rw [X0 hm];omega
       generalize f8 r0 35=r1 at *
       have k1:r1.length≤(f8 r1 63).length+(if 63∈r1 then 1+(k8 r1 63).length else 0):=by
        split
        · rename_i hm;rw [a66 hm];omega
        · rename_i hm;rw [X0 hm];omega
       generalize f8 r1 63=r2 at *
       have k2:r2.length≤(f8 r2 47).length+(if 47∈r2 then r2.drop (l8 r2 47) else [47]).length:=by
        split
        · unfold f8;simp;omega
        · rename_i hm;rw [X0 hm];omega
       generalize (if 47∈r2 then r2.drop (l8 r2 47) else [47])=pa at *
       generalize f8 r2 47=r3 at *
       have k3:r3.length≤(if 64∈r3 then k8 r3 64 else r3).length+1+(if 64∈r3 then f8 r3 64 else []).length:=by
        split
        · rename_i hm;rw [a66 hm];omega
        · simp
       generalize (if 64∈r3 then k8 r3 64 else r3)=r4 at *
       generalize (if 64∈r3 then f8 r3 64 else [])=us at *
       cases hp:Z0 sc r4 with
       | none=>rw [hp] at h;cases h
       | some p=>
        rw [hp] at hlen
        have k4:=b94 hp
        have k5:=b42 (f8 r4 58)
        dsimp only at hlen
        unfold V7 at hlen
        dsimp only at hlen
        rw [if_pos hsc] at hlen
        simp only [List.length_append,List.length_cons,List.length_nil] at hlen
        have q1:us.length≤(if us=[] then [] else us++[64]).length:=by split<;>simp_all
        have q2:(if 63∈r1 then 1+(k8 r1 63).length else 0)≤(if decide (63∈r1)=true then 63 :: k8 r1 63 else []).length:=by
         by_cases hm:63∈r1<;>simp [hm];omega
        have q3:(if 35∈r0 then 1+(k8 r0 35).length else 0)≤(if decide (35∈r0)=true then 35 :: k8 r0 35 else []).length:=by
         by_cases hm:35∈r0<;>simp [hm];omega
        omega
     · cases h
   · rename_i hsc
     rw [if_neg hsc] at hw
     exact absurd hw hsc
 · cases h
theorem b1k (t:Tx):a1z t=a6d t:=by
 unfold a1z a6d
 by_cases hb:((A9 t).2 && W5 (A9 t).1.scheme)=true
 · have h:=hb
   simp only [Bool.and_eq_true] at h
   have hl:=b69 h.1 h.2
   rw [if_pos (by omega),if_pos hb,if_pos hb]
   rw [b5c]
   exact (b4v (b16 h.1):0≤(A9 t).1.port)
 · rw [if_neg hb,if_neg hb];split<;>rfl
def a01:Tx:=[114,101,112,111,114,116,45,116,111]
def W9:Tx:=[114,101,112,111,114,116,45,117,114,105]
def T5 (w:Tx):Bool:=decide (w≠[]) && w.all fun c=>!decide (c.toNat=32∨c.toNat=9∨c.toNat=59)
def P3 (r:LRule):Bool:=Y8 r.name && decide (r.words.length≤8) && r.words.all T5
def O3 (l:List LRule) (name:Tx):List Tx:=match l.find? (fun r=>decide (r.name=name)) with
 | some r=>r.words
 | none=>[]
def a10 (ws:List Tx):Tx:=match ws with
 | w :: _=>if a0d w then w else []
 | []=>[]
def a0m (l:List LRule):Tx:=a10 (O3 l a01)
def v8 (acc:List Tx) (w:Tx):List Tx:=match a6d w with
 | some u=>if u∉acc∧acc.length < 4 then acc++[u] else acc
 | none=>acc
def a0l (l:List LRule):List Tx:=(O3 l W9).foldl v8 []
theorem b33 (acc:List Tx) (w:Tx) (h:acc.length≤4):(v8 acc w).length≤4:=by
 unfold v8
 split
 · split
   · simp;omega
   · exact h
 · exact h
theorem a36:∀ (l:List Tx) (acc:List Tx),acc.length≤4→(l.foldl v8 acc).length≤4
 | [],_,h=>h
 | w :: l,acc,h=>a36 l _ (b33 acc w h)
def J5 (p:LPolicy):Bool:=
 decide (p.rules.length≤8) && (p.rules.all P3 && a2y (p.rules.map fun r=>r.name)) && (decide (p.reportTo=a0m p.rules) && decide (p.uris=a0l p.rules))
end Go.KP
end
section
namespace Go.KP
def mkL {α:Type} (f:Nat→α) (w n k:Nat):List α:=(List.range n).map fun j=>f (k+w*j)
theorem a07 {α:Type} (f:Nat→α) (w n k:Nat):(mkL f w n k).length=n:=by simp [mkL]
theorem mkL_at {α:Type} {f:Nat→α} {w n k j:Nat} (h:j < n):(mkL f w n k)[j]'(by rw [a07];exact h)=f (k+w*j):=by simp [mkL]
theorem c1v {α:Type} (f:Nat→α) (w i k:Nat):mkL f w (i+1) k=mkL f w i k++[f (k+w*i)]:=by simp [mkL,List.range_succ]
def mkU {α:Type} (f:Nat→α) (w:Nat) (l:List α) (k i:Nat):List α:=mkL f w i k++l.drop i
theorem b4s {α:Type} (f:Nat→α) (w:Nat) (l:List α) (k:Nat):mkU f w l k 0=l:=by simp [mkU,mkL]
theorem b83 {α:Type} (f:Nat→α) (w:Nat) (l:List α) (k:Nat):mkU f w l k l.length=mkL f w l.length k:=by simp [mkU]
theorem b82 {α:Type} (f:Nat→α) (w:Nat) (l:List α) (k i:Nat) (h:i≤l.length):(mkU f w l k i).length=l.length:=by simp [mkU,a07];omega
theorem b81 {α:Type} (f:Nat→α) (w:Nat) (l:List α) (k i:Nat) (h:i < l.length):(mkU f w l k i).set i (f (k+w*i))=mkU f w l k (i+1):=by
 unfold mkU
 rw [List.set_append_right _ _ (by rw [a07];exact Nat.le_refl _),a07,Nat.sub_self,List.drop_eq_getElem_cons h,List.set_cons_zero,c1v,List.append_assoc]
 rfl
def H4 (k:Nat):LTarget:=⟨lmk k,((k+1:Nat):Int),((k+2:Nat):Int)⟩
end Go.KP
end
section
namespace Go.PW
open Go.RowKit Go.KP
theorem u8_eq {a b:UInt8}:((a.toNat:Int)=(b.toNat:Int))↔a=b:=by
 constructor
 · intro h;exact UInt8.toNat_inj.1 (by omega)
 · rintro rfl;rfl
def rvb (c:UInt8):RV:=.int .u8 c.toNat
def tx (t:Tx):RV:=.str (bs t)
def num (n:Int):RV:=.int .i64 n
theorem b56 (l:Tx):S6 (l.map rvb)=bs l:=by
 unfold S6 bs
 congr 1
 congr 1
 rw [List.map_map]
 have:(RV.byte ∘ rvb)=id:=by
  funext c
  simp [rvb,RV.byte]
 rw [this];simp
theorem a9a {x:Int} (h1:0≤x) (h2:x < 256):IntKind.u8.wrap x=x:=by
 unfold IntKind.wrap
 simp [IntKind.bits,IntKind.signed]
 omega
def R7 (u:LUrl):RV:=.agg [tx u.scheme,tx u.user,tx u.host,num u.port,tx u.path,tx u.query,tx u.frag,.bool u.hasQ,.bool u.hasF]
end Go.PW
end
section
namespace Go.PW
open Go.RowKit Go.KP
variable [GF]
theorem b4l (φ:Nat→Option RV) (rs:List RV):PV.plL (PV.frzL φ (rs.map .val))=rs.map .val:=by
 induction rs with
 | nil=>rfl
 | cons r rs ih=>simp [PV.frzL,PV.plL,PV.frz,PV.pl,ih]
theorem b8q {st:St} {s n t id:Nat} {rs:List RV} {r:RV} (h1:st.env s=.ptr id 0) (h2:st.mem id=.box (rs.map .val)) (h3:rs.length=n) (h4:0 < n) (h5:st.env t=.val r) :
 H7 [.c s true n,.t t] st.fin=some (.tup [n7 (rs.map .val),.val r]):=by
 have e1:st.fin.env s=.ptr id 0:=by rw [M8,h1];simp [PV.frz,a0t,h2,PV.pl]
 have e2:st.fin.mem id=.box (rs.map .val):=by
  simp only [St.fin,St.freeze,h2,MObj.pl,b4l]
 have e3:st.fin.env t=.val r:=by rw [M8,h5];rfl
 simp only [H7,a1n,a3j,e1,e2,e3]
 simp only [List.length_map,h3,Nat.zero_add,List.drop_zero,if_true]
 rw [if_pos ⟨by omega,h4⟩,List.take_of_length_le (by simp [h3])]
 rfl
def a77 (u:LUrl):List RV:=[tx u.scheme,tx u.user,tx u.host,num u.port,tx u.path,tx u.query,tx u.frag,.bool u.hasQ,.bool u.hasF]
def b8 (u:LUrl):List PV:=[.val (tx u.scheme),.val (tx u.user),.val (tx u.host),.val (num u.port),.val (tx u.path),.val (tx u.query),.val (tx u.frag),.val (.bool u.hasQ),.val (.bool u.hasF)]
theorem a78 (u:LUrl):b8 u=(a77 u).map .val:=rfl
def a2u (r:LUrl×Bool):PV:=.tup [.val (R7 r.1),.val (.bool r.2)]
theorem b13 (u:LUrl):n7 ((a77 u).map .val)=.val (R7 u):=by simp [a77,n7,i6,R7]
theorem a4a {st:St} {s t id:Nat} {u:LUrl} {b:Bool} (h1:st.env s=.ptr id 0) (h2:st.mem id=.box (b8 u)) (h5:st.env t=.val (.bool b)):H7 [.c s true 9,.t t] st.fin=some (a2u (u,b)):=by
 rw [b8q (n:=9) (rs:=a77 u) h1 (by rw [h2,a78]) rfl (by omega) h5,b13]
 rfl
def l2 (x:LTarget):RV:=.agg [tx x.url,num x.prio,num x.weight]
def b6p (x:LPeer):RV:=.agg [tx x.target.url,num x.target.prio,num x.target.weight,num x.fails,num x.retry,.bool x.gone]
def rvPeers (l:List LPeer):RV:=.list 6 (l.map b6p)
theorem a4x {P:Program} {st:St} {Ke:Kx (PV→St→Prop)} {kx:Kx (RV→St→Prop)} {d f ps as p} (ha:a1h st.mem ps=some as) (hb:boxIds ps=[]) (hs:∀ b,p.shift b=p) (ho:p.ownLt 0=true) (hr:ps.all PV.noOwn=true∨p.flat=true) (h:f7 P f as (.ret p []) []) (hK:Ke.k p st):KC P st d f ps (Ke:=Ke) (kx:=kx):=by
 refine a13 (K:=fun q st'=>q=p∧st'=st) (kx:=fun _ _=>False) (fun p s hh=>by obtain ⟨rfl,rfl⟩:=hh;exact hK) (fun _ _ hh=>hh.elim) (a2i ?_)
 unfold a1o
 rw [ha]
 exact ⟨hb,p,h,hs,ho,hr,rfl⟩
theorem V4 {P:Program} {st:St} {Ke:Kx (PV→St→Prop)} {kx:Kx (RV→St→Prop)} {d f ps as a b} (ha:a1h st.mem ps=some as) (hb:boxIds ps=[]) (hr:ps.all PV.noOwn=true∨(PV.tup [.val a,.val b]).flat=true) (h:f7 P f as (.ret (.tup [.val a,.val b]) []) []) (hK:Ke.k (.tup [.val a,.val b]) st):KC P st d f ps (Ke:=Ke) (kx:=kx):=
 a4x ha hb (fun _=>rfl) rfl hr h hK
theorem X6 {P:Program} {st:St} {Ke:Kx (PV→St→Prop)} {kx:Kx (RV→St→Prop)} {d f ps as a b c} (ha:a1h st.mem ps=some as) (hb:boxIds ps=[]) (hr:ps.all PV.noOwn=true∨(PV.tup [.val a,.val b,.val c]).flat=true) (h:f7 P f as (.ret (.tup [.val a,.val b,.val c]) []) []) (hK:Ke.k (.tup [.val a,.val b,.val c]) st):KC P st d f ps (Ke:=Ke) (kx:=kx):=
 a4x ha hb (fun _=>rfl) rfl hr h hK
end Go.PW
end
section
namespace Go.PW
open Go.RowKit Go.KP
variable [GF]
def RV.sv:RV→Option Value
 | .str s=>some (.string s)
 | .int k n=>some (.int k n)
 | .bool b=>some (.bool b)
 | _=>none
def svs:List RV→Option (List Value)
 | []=>some []
 | r :: rs=>match r.sv,svs rs with
  | some v,some vs=>some (v :: vs)
  | _,_=>none
theorem sv_rep {L:Nat→Prop} {w:World} {r:RV} {v u:Value} (h:r.sv=some v) (hr:RepR L w r u):u=v:=by
 cases hr with
 | bool b=>simpa [RV.sv] using h
 | int k n=>simpa [RV.sv] using h
 | str s=>simpa [RV.sv] using h
 | _=>simp [RV.sv] at h
theorem b8k {L:Nat→Prop} {w:World} {r:RV} {v:Value} (h:r.sv=some v):RepR L w r v:=by
 cases r with
 | bool b=>simp [RV.sv] at h;subst h;exact .bool b
 | int k n=>simp [RV.sv] at h;subst h;exact .int k n
 | str s=>simp [RV.sv] at h;subst h;exact .str s
 | _=>simp [RV.sv] at h
theorem b3w {L:Nat→Prop} {w:World}:∀ {rs:List RV} {vals vs:List Value} {ms:List Nat},svs rs=some vals→ArgsRep L w (rs.map .val) vs ms→vs=vals∧ms=[]
 | [],vals,vs,ms,h,hr=>by
  simp [svs] at h;subst h
  cases hr;exact ⟨rfl,rfl⟩
 | r :: rs,vals,vs,ms,h,hr=>by
  rw [List.map_cons] at hr
  cases hr with
  | cons _ _ v vs' ms1 ms2 h1 h2=>
   cases h1 with
   | val _ _ h1=>
    simp only [svs] at h
    split at h
    · rename_i v' vs'' e1 e2
      obtain ⟨rfl,rfl⟩:=b3w e2 h2
      have:=sv_rep e1 h1
      subst this
      have:=Option.some.inj h
      exact ⟨this,rfl⟩
    · cases h
theorem a8i {F:Ctx} {γ:Nat→Value} {w:World}:MemInv F γ (k6 []) w:=
 ⟨fun id cs h=>by simp [k6] at h,fun id E sz xs h=>by simp [k6] at h,fun id E sz n c h=>by simp [k6] at h,fun id s clk m h=>by simp [k6] at h,fun id id' b h=>by simp [k6,MObj.live] at h⟩
theorem b2b {P:Program} {f:Nat} {rs:List RV} {vals:List Value} {p:PV} {v:Value} (ha:svs rs=some vals) (hp:∀ γ L w,RepP γ L w p v)
 (h:∀ L w,Globs L w→b1r L w→Calls P f vals.toArray w fun e w'=>e=.returned v∧Below w.heap.size w w'):f7 P f (rs.map .val) (.ret p []) []:=by
 intro L w vs ms hL hgl hgb hargs hnd
 obtain ⟨rfl,rfl⟩:=b3w ha hargs
 refine (h L w hgl hgb).mono fun e w' ⟨he,hb⟩=>?_
 exact ⟨Outside.of_below hb,v,fun _=>undef,he,hp _ _ _,a8i,rfl,fun i b cells h1 h2=>by simp at h1⟩
theorem a0a {P:Program} {f:Nat} {rs:List RV} {vals:List Value} {r:RV} {v:Value} (ha:svs rs=some vals) (hv:r.sv=some v)
 (h:∀ L w,Globs L w→b1r L w→Calls P f vals.toArray w fun e w'=>e=.returned v∧Below w.heap.size w w'):f7 P f (rs.map .val) (.ret (.val r) []) []:=
 b2b ha (fun γ L w=>.val _ _ (b8k hv)) h
theorem a9o:∀ {rs:List RV} {vals:List Value},svs rs=some vals→vals.length=rs.length
 | [],vals,h=>by simp [svs] at h;subst h;rfl
 | r :: rs,vals,h=>by
  simp only [svs] at h
  split at h
  · rename_i v vs e1 e2
    have:=a9o e2
    have h:=Option.some.inj h
    subst h;simp [this]
  · cases h
theorem b36 {L:Nat→Prop} {w:World}:∀ {rs:List RV} {vals:List Value},svs rs=some vals→∀ i,i < rs.length→RepR L w (rs.getD i .nilptr) (vals.getD i undef)
 | [],vals,h,i,hi=>by simp at hi
 | r :: rs,vals,h,i,hi=>by
  simp only [svs] at h
  split at h
  · rename_i v vs e1 e2
    have h:=Option.some.inj h
    subst h
    cases i with
    | zero=>simpa using b8k e1
    | succ i=>simpa using b36 e2 i (by simpa using hi)
  · cases h
theorem b0x {P:Program} {f:Nat} {rs:List RV} {vals:List Value} {qs:List RV} {us:List Value} (ha:svs rs=some vals) (hv:svs qs=some us)
 (h:∀ L w,Globs L w→b1r L w→Calls P f vals.toArray w fun e w'=>e=.returned (.tuple us.toArray)∧Below w.heap.size w w'):f7 P f (rs.map .val) (.ret (.tup (qs.map .val)) []) []:=
 b2b ha (fun γ L w=>.tup _ _ (by simp [a9o hv]) fun i hi=>by
  have hi':i < qs.length:=by simpa using hi
  have e1:(qs.map PV.val).getD i .undef=.val (qs.getD i .nilptr):=by simp [List.getD_eq_getElem?_getD,List.getElem?_eq_getElem hi']
  have e2:us.toArray.getD i undef=us.getD i undef:=by simp [List.getD_eq_getElem?_getD,Array.getD_eq_getD_getElem?]
  rw [e1,e2]
  exact .val _ _ (b36 hv i hi')) h
theorem a16 {w w':World} (h:w'=w):Below w.heap.size w w':=by subst h;exact Below.refl _ _
end Go.PW
end
section
namespace Go.PW
open Go.RowKit Go.KP
variable [GF]
def a7g (M:Nat→MObj):List Nat→List (List RV)→Prop
 | [],[]=>True
 | id :: ids,b :: bs=>M id=.box (b.map .val)∧a7g M ids bs
 | _,_=>False
def W4 (M:Nat→MObj):Nat→List (List RV)→Prop
 | _,[]=>True
 | k,b :: bs=>M (900+k)=.box (b.map .val)∧W4 M (k+1) bs
theorem a5q:∀ {M:Nat→MObj} {ids:List Nat} {B:List (List RV)},a7g M ids B→N1 M ids B=M
 | M,[],[],_=>rfl
 | M,id :: ids,b :: bs,h=>by
  have e:upd id (.box (b.map .val)) M=M:=by
   funext x
   by_cases hx:x=id
   · subst hx;rw [v7,h.1]
   · rw [u6 _ _ _ _ hx]
  simp only [N1]
  rw [e]
  exact a5q h.2
 | M,[],_ :: _,h=>h.elim
 | M,_ :: _,[],h=>h.elim
theorem b1u:∀ {M:Nat→MObj} {ids:List Nat} {B:List (List RV)},a7g M ids B→B.length=ids.length
 | M,[],[],_=>rfl
 | M,id :: ids,b :: bs,h=>by simp [b1u h.2]
 | M,[],_ :: _,h=>h.elim
 | M,_ :: _,[],h=>h.elim
theorem c09 (b:List RV):w5 (b.map .val)=some b:=by
 induction b with
 | nil=>rfl
 | cons r b ih=>simp [w5,ih]
theorem a7e {st:St}:∀ {k:Nat} {B:List (List RV)},W4 st.mem k B→a3b st.fin k B
 | k,[],_=>trivial
 | k,b :: B,h=>by
  have e2:st.fin.mem (900+k)=.box (b.map .val):=by
   simp only [St.fin,St.freeze,h.1,MObj.pl,b4l]
  exact ⟨by rw [e2];exact c09 b,a7e h.2⟩
def RetB (res:List Rs) (p:PV) (B:List (List RV)):PExit→St→Prop
 | .normal,st=>H7 res st.fin=some p∧W4 st.mem 0 B
 | .ret,st=>H7 res st.fin=some p∧W4 st.mem 0 B
 | _,_=>False
@[simp] theorem a18 {res p B} {st:St}:RetB res p B .ret st=(H7 res st.fin=some p∧W4 st.mem 0 B):=by rfl
@[simp] theorem RetB_normal {res p B} {st:St}:RetB res p B .normal st=(H7 res st.fin=some p∧W4 st.mem 0 B):=by rfl
theorem a3a {P:Program} {f:Nat} {c:PC} {res:List Rs} {as:List AV} {p:PV} {B:List (List RV)} (hm:P.follows .mixedOrders=true) (hc:j9 P f c as.length res=true) (hb:b7 as=B) (hp:∀ ι,p.ren ι=p)
 (h:R9 P c (d9 as) (RetB res p B)):f7 P f as (.ret p []) B:=by
 refine a9i hm hc (M9 (fun e s hh=>?_) h)
 have key:H7 res s.fin=some p∧W4 s.mem 0 B→∃ st',Le s st'∧b3y res (b7 as).length (.ret p []) B .ret st':=fun hh=>
  ⟨s.fin,(Le.freeze s _).trans (Le.plain _),(by rw [hb]),⟨⟨id,by rw [hp];exact hh.1,fun i j hi=>by simp at hi,fun i r hr=>by simp at hr⟩,a7e hh.2⟩⟩
 cases e with
 | normal=>exact key hh
 | ret=>exact key hh
 | exit id=>exact hh.elim
 | pan r=>exact hh.elim
theorem b3e (st:St):st.kill (fun _=>false)=st:=by
 cases st with
 | mk env mem=>
  simp only [St.kill,PV.kill_none]
  congr 1
  funext x
  cases mem x with
  | dead=>rfl
  | row E sz xs=>rfl
  | box cs=>simp [MObj.kill,PV.killL_none]
  | prow E sz n c=>simp [MObj.kill,PV.kill_none]
  | map s clk m => 
   have:(fun k=>(m k).map fun p=>(p.1.kill fun _=>false,p.2))=m:=by funext k;cases m k<;>simp [PV.kill_none]
   simp only [MObj.kill,this];rfl
theorem a12 {P:Program} {st:St} {Ke:Kx (PV→St→Prop)} {kx:Kx (RV→St→Prop)} {d f ps as r ids B} (ha:a1h st.mem ps=some as) (hb:boxIds ps=ids) (hn:ids.Nodup) (hlt:ids.all (· < i8 d)=true) (hB:a7g st.mem ids B) (hr:ps.all PV.noOwn=true)
 (h:f7 P f as (.ret (.val r) []) B) (hK:Ke.k (.val r) st):KC P st d f ps (Ke:=Ke) (kx:=kx):=by
 unfold KC
 refine .inl ?_
 unfold a4y
 rw [ha]
 refine ⟨by rw [hb];exact hn,by rw [hb];exact hlt,.ret (.val r) [],B,h,by rw [hb];exact b1u hB,rfl,.inl hr,?_⟩
 have e:(fun i=>decide (i8 d≤i) && decide (i < i8 d+([]:List Row).length))=fun _=>false:=by
  funext i
  simp only [List.length_nil,Nat.add_zero,Bool.and_eq_false_imp,decide_eq_true_eq,decide_eq_false_iff_not]
  omega
 rw [e,b3e]
 simp only [I3,hb]
 rw [a5q hB]
 exact hK
end Go.PW
end
section
namespace Go.PW
open Go.RowKit Go.KP
def a6u {α:Type} (r:α→RV) (z:RV) (l:List α) (i:Nat):List RV:=(l.take i).map r++List.replicate (l.length - i) z
theorem b9p {α:Type} (r:α→RV) (z:RV) (l:List α):a6u r z l 0=List.replicate l.length z:=by simp [a6u]
theorem c1c {α:Type} (r:α→RV) (z:RV) (l:List α):a6u r z l l.length=l.map r:=by simp [a6u]
theorem c1b {α:Type} (r:α→RV) (z:RV) (l:List α) (i:Nat) (h:i≤l.length):(a6u r z l i).length=l.length:=by simp [a6u];omega
theorem c1a {α:Type} (r:α→RV) (z:RV) (l:List α) (i:Nat) (h:i < l.length):(a6u r z l i).set i (r l[i])=a6u r z l (i+1):=by
 unfold a6u
 have h1:l.length - i=(l.length - (i+1))+1:=by omega
 have h2:((l.take i).map r).length=i:=by simp;omega
 rw [h1,List.replicate_succ,List.set_append_right _ _ (by omega),h2,Nat.sub_self,List.set_cons_zero]
 rw [List.take_add_one,List.getElem?_eq_getElem h,List.map_append,List.append_assoc]
 rfl
theorem upTo_at {α:Type} (r:α→RV) (z:RV) (l:List α) (i:Nat) (h:i < l.length):(a6u r z l i)[i]?.getD .nilptr=z:=by
 unfold a6u
 have h1:l.length - i=(l.length - (i+1))+1:=by omega
 have h2:((l.take i).map r).length=i:=by simp;omega
 rw [h1,List.replicate_succ,List.getElem?_append_right (by omega),h2]
 simp
def S5 (o:Option Tx):PV:=.tup [.val (tx (o.getD [])),.val (.bool o.isSome)]
theorem b2n [GF] {st:St} {s n id:Nat} {cs:List PV} {rs:List RV} (h1:st.env s=.ptr id 0) (h2:st.mem id=.box cs) (hz:PV.plL (PV.frzL (a0t st fun _=>true) cs)=rs.map .val) (h3:rs.length=n) (h4:0 < n) :
 H7 [.c s true n] st.fin=some (n7 (rs.map .val)):=by
 have e1:st.fin.env s=.ptr id 0:=by rw [M8,h1];simp [PV.frz,a0t,h2,PV.pl]
 have e2:st.fin.mem id=.box (rs.map .val):=by
  simp only [St.fin,St.freeze,h2,MObj.pl]
  rw [hz]
 simp only [H7,a3j,e1,e2]
 simp only [List.length_map,h3,Nat.zero_add,List.drop_zero,if_true]
 rw [if_pos ⟨by omega,h4⟩,List.take_of_length_le (by simp [h3])]
def b8x {α:Type} (sz id:Nat):List α→PV
 | []=>.emp sz
 | _ :: _=>.own id
def c1i {α:Type} (E sz:Nat) (r:α→RV):List α→MObj
 | []=>.dead
 | x :: xs=>.row E sz ((x :: xs).map r)
@[simp] theorem b9y {α:Type} (sz id:Nat):b8x sz id ([]:List α)=.emp sz:=rfl
@[simp] theorem ownOr_cons {α:Type} (sz id:Nat) (x:α) (xs:List α):b8x sz id (x :: xs)=.own id:=rfl
@[simp] theorem rowOr_nil {α:Type} (E sz:Nat) (r:α→RV):c1i E sz r []=.dead:=rfl
@[simp] theorem rowOr_cons {α:Type} (E sz:Nat) (r:α→RV) (x:α) (xs:List α):c1i E sz r (x :: xs)=.row E sz (r x :: xs.map r):=rfl
theorem Le.mkD [GF] {st:St} (le:List (Nat×PV)) (lm:List (Nat×MObj)) (h1:∀ kp∈le,st.env kp.1=kp.2) (h2:∀ kp∈lm,kp.2=.dead∨st.mem kp.1=kp.2):Le st ⟨u0 le,u4 lm⟩:=by
 refine Le.drop (fun i=>?_) (fun x=>?_)
 · show u4 lm i=st.mem i∨u4 lm i=.dead
   induction lm with
   | nil=>exact .inr rfl
   | cons kp lm ih=>
    obtain ⟨k,o⟩:=kp
    simp only [u4]
    split
    · rename_i e;subst e
      rcases h2 (i,o) (by simp) with h | h
      · exact .inr h
      · exact .inl h.symm
    · exact ih fun kp hkp=>h2 kp (by simp [hkp])
 · show Wk (st.env x) (u0 le x)
   induction le with
   | nil=>exact .undef _
   | cons kp le ih=>
    obtain ⟨k,p⟩:=kp
    simp only [u0]
    split
    · rename_i e;subst e;rw [h1 (x,p) (by simp)];exact .refl p
    · exact ih fun kp hkp=>h1 kp (by simp [hkp])
@[simp] theorem rvTarget_len (x:LTarget):(l2 x).cells.length=3:=rfl
@[simp] theorem rvPeer_len (x:LPeer):(b6p x).cells.length=6:=rfl
def Z5 (x:LGroup):RV:=.agg [tx x.name,num x.age,.list 3 (x.targets.map l2)]
@[simp] theorem rvGroup_len (x:LGroup):(Z5 x).cells.length=3:=rfl
def j5 (x:LRule):RV:=.agg [tx x.name,.list 1 (x.words.map tx)]
@[simp] theorem rvRule_len (x:LRule):(j5 x).cells.length=2:=rfl
def j8 (x:LPolicy):RV:=.agg [tx x.reportTo,.list 1 (x.uris.map tx),.list 2 (x.rules.map j5)]
@[simp] theorem rvPolicy_len (x:LPolicy):(j8 x).cells.length=3:=rfl
def b4e (x:LViolation):RV:=.agg [tx x.document,tx x.referrer,tx x.blocked,tx x.source,tx x.directive,tx x.sample,num x.line,num x.column,.bool x.redirected]
@[simp] theorem c05 (x:LViolation):(b4e x).cells.length=9:=rfl
def a9y (x:LReport):RV:=.agg [num x.id,num x.born,num x.tries,tx x.body]
@[simp] theorem rvReport_len (x:LReport):(a9y x).cells.length=4:=rfl
def rvQueue (x:LQueue):RV:=.agg [.list 4 (x.items.map a9y),.list 1 (x.recent.map tx)]
@[simp] theorem rvQueue_len (x:LQueue):(rvQueue x).cells.length=2:=rfl
def b1v (x:LChannel):RV:=.agg [tx x.group.name,num x.group.age,.list 3 (x.group.targets.map l2),.list 6 (x.peers.map b6p),.list 4 (x.queue.items.map a9y),.list 1 (x.queue.recent.map tx)]
@[simp] theorem rvChannel_len (x:LChannel):(b1v x).cells.length=6:=rfl
def b8m (x:LEntry):RV:=.agg [num x.kind,num x.id,num x.at_]
@[simp] theorem rvEntry_len (x:LEntry):(b8m x).cells.length=3:=rfl
def c1g (x:LWire):RV:=.agg [num x.at_,num x.status,tx x.group,tx x.url,.list 1 (x.ids.map num),tx x.body,.bool x.lost]
@[simp] theorem rvWire_len (x:LWire):(c1g x).cells.length=7:=rfl
def rvPipe (x:LPipe):RV:=.agg [.list 6 (x.channels.map b1v),tx x.policy.reportTo,.list 1 (x.policy.uris.map tx),.list 2 (x.policy.rules.map j5),num x.now,num x.next,.list 3 (x.log.map b8m),.list 7 (x.wires.map c1g)]
@[simp] theorem rvPipe_len (x:LPipe):(rvPipe x).cells.length=8:=rfl
def rvEvent (x:LEvent):RV:=.agg [num x.kind,num x.draw,num x.status,num x.ticks,tx x.text,tx x.name,tx x.violation.document,tx x.violation.referrer,tx x.violation.blocked,tx x.violation.source,tx x.violation.directive,tx x.violation.sample,num x.violation.line,num x.violation.column,.bool x.violation.redirected,.bool x.lost]
@[simp] theorem rvEvent_len (x:LEvent):(rvEvent x).cells.length=16:=rfl
def c1h (x:LParcel):RV:=.agg [num x.id,num x.age,tx x.body]
@[simp] theorem rvParcel_len (x:LParcel):(c1h x).cells.length=3:=rfl
def rvBox (x:LBox):RV:=.agg [.list 1 (x.ids.map num),.list 1 (x.times.map num),.list 1 (x.bodies.map tx)]
@[simp] theorem rvBox_len (x:LBox):(rvBox x).cells.length=3:=rfl
end Go.PW
end
section
namespace Go.KP
def T8 (r:LRule):Nat:=1+r.words.length
theorem c06 {α:Type} (z:α→Nat) (l:List α):l.length≤zS z l:=Nat.le_add_right _ _
theorem b74 (r:LRule):T8 r≤1+6*T2 r:=by
 have h1:=c06 List.length r.words
 unfold T8 T2
 omega
theorem c1y {α:Type} (c z:α→Nat) (h:∀ x,c x≤6+6*z x) (l:List α):S1 c l≤6*zS z l:=by
 have:S1 c l≤6*(l.length+S1 z l):=by
  induction l with
  | nil=>simp [S1]
  | cons x l ih=>simp only [S1,List.map_cons,List.sum_cons,List.length_cons] at *;have:=h x;omega
 exact this
end Go.KP
end
