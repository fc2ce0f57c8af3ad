/- Ac: merged out of KPa, KPb, KPc, KPd, KPe, KPf, KPg, KPh, KPi, KPj, KPk, KPl, KPm, KPn, KQa, KRa, KLa, KRb, KRc, KPt, KPu. -/
import Derived.Test.YtgdapgcjmfeocaaGreatDoorPWv
set_option linter.unusedSectionVars false
set_option linter.unusedSimpArgs false
set_option linter.unusedVariables false
section
namespace Go.KP
abbrev Tx:=List UInt8
def lz (c:UInt8):Bool:=decide (97≤c.toNat∧c.toNat≤122)
def lw (c:UInt8):Bool:=decide (48≤c.toNat∧c.toNat≤57)
def Ng (c:UInt8):UInt8:=if 65≤c.toNat∧c.toNat≤90 then c+32 else c
def mi (t:Tx):Tx:=t.map Ng
def kw (t:Tx) (c:UInt8):Nat:=t.findIdx (· == c)
def o0 (t wo:Tx):Bool:=t.all fun c=>decide (33≤c.toNat∧c.toNat≤126) && !decide (c∈wo)
def yy:Tx:=[104,116,116,112]
def Bt:Tx:=[104,116,116,112,115]
def qf (s:Tx):Bool:=s == yy || s == Bt
def oj (c:UInt8):Bool:=lz c || lw c || decide (c.toNat=45∨c.toNat=43∨c.toNat=46)
def vm (t:Tx):Bool:=(t.take 1).all lz && t.all oj
def oa (t:Tx):Bool:=decide (1≤t.length∧t.length≤12) && vm t
def nr:Bool→Tx→Bool
 | last,[]=>!last
 | last,c :: r=>if !(lz c || lw c) && (last || !decide (c.toNat=45∨c.toNat=46)) then false else nr (!(lz c || lw c)) r
def sq (t:Tx):Bool:=nr true t
def qj (s:Tx):Int:=if s=yy then 80 else 443
def tz (n:Nat):Tx:=if h:n < 10 then [UInt8.ofNat (48+n)] else tz (n / 10)++[UInt8.ofNat (48+n % 10)]
termination_by n
decreasing_by omega
theorem Nn (t:Tx) (c:UInt8) (i:Nat) (hi:i≤t.length) (h:∀ k,k < i→t.getD k 0≠c) (h':i=t.length∨t.getD i 0=c):kw t c=i:=by
 unfold kw
 by_cases hl:i < t.length
 · rw [List.findIdx_eq hl]
   refine ⟨?_,fun j hj=>?_⟩
   · rcases h' with h' | h'
     · omega
     · simpa [List.getD_eq_getElem?_getD,List.getElem?_eq_getElem hl] using h'
   · have:=h j hj
     have hjl:j < t.length:=by omega
     simpa [List.getD_eq_getElem?_getD,List.getElem?_eq_getElem hjl] using this
 · have e:i=t.length:=by omega
   subst e
   rw [List.findIdx_eq_length]
   intro x hx
   obtain ⟨j,hj,rfl⟩:=List.getElem_of_mem hx
   have:=h j hj
   simpa [List.getD_eq_getElem?_getD,List.getElem?_eq_getElem hj] using this
theorem q7 (t:Tx) (c:UInt8):kw t c≤t.length:=List.findIdx_le_length
theorem og {t:Tx} {c:UInt8}:kw t c < t.length↔c∈t:=by
 unfold kw
 rw [List.findIdx_lt_length]
 constructor
 · rintro ⟨x,hx,h⟩;have:x=c:=by simpa using h
   exact this ▸ hx
 · intro h;exact ⟨c,h,by simp⟩
theorem vw {α:Type} (t:List α) (i:Nat) (d:α) (h:i < t.length):t.getD i d=t[i]:=by simp [List.getD_eq_getElem?_getD,List.getElem?_eq_getElem h]
theorem Jh {α:Type} (t:List α) (i:Nat) (d:α) (h:i < t.length):t.take (i+1)=t.take i++[t.getD i d]:=by
 rw [List.take_add_one,List.getElem?_eq_getElem h,vw t i d h];rfl
theorem sj {n:Nat} (h:n < 10):tz n=[UInt8.ofNat (48+n)]:=by rw [tz];simp [h]
theorem vu {n:Nat} (h:¬ n < 10):tz n=tz (n / 10)++[UInt8.ofNat (48+n % 10)]:=by rw [tz];simp [h]
theorem Ws (n:Nat):(tz n).length≤n+1:=by
 induction n using Nat.strongRecOn with
 | ind n ih=>
  by_cases h:n < 10
  · rw [sj h];simp
  · rw [vu h]
    have:=ih (n / 10) (by omega)
    simp;omega
theorem wh:∀ (k n:Nat),n < 10 ^ (k+1)→(tz n).length≤k+1
 | 0,n,h=>by rw [sj (by simpa using h)];simp
 | k+1,n,h=>by
  by_cases hn:n < 10
  · rw [sj hn];simp
  · rw [vu hn]
    have:=wh k (n / 10) (by rw [Nat.div_lt_iff_lt_mul (by omega)];rw [Nat.pow_succ] at h;exact h)
    simp;omega
def x6 (n:Int):Tx:=if n < 0 then 45 :: tz (-n).toNat else tz n.toNat
def n7 (t:Tx):Nat:=t.foldl (fun n c=>n*10+(c.toNat - 48)) 0
def uy (neg:Bool) (t:Tx):Bool:=decide (t.length=0∨18 < t.length) || (decide ((t.getD 0 0).toNat=48) && (decide (1 < t.length) || neg))
def so (neg:Bool) (t:Tx):Option Int:=if uy neg t then none else if t.all lw then some (if neg then - (n7 t:Int) else (n7 t:Int)) else none
def om (t:Tx):Option Int:=match t with
 | []=>none
 | c :: r=>if c=45 then so true r else so false (c :: r)
theorem Ay (t:Tx) (c:UInt8):n7 (t++[c])=n7 t*10+(c.toNat - 48):=by simp [n7]
theorem F3 (t:Tx) (h:t.all lw=true):n7 t < 10 ^ t.length:=by
 have key:∀ (k:Nat) (t:Tx),t.length=k→t.all lw=true→n7 t < 10 ^ t.length:=by
  intro k
  induction k with
  | zero=>intro t ht _;have:t=[]:=List.eq_nil_of_length_eq_zero ht;subst this;decide
  | succ k ih=>
   intro t ht ha
   obtain ⟨r,c,rfl⟩:∃ r c,t=r++[c]:=⟨t.dropLast,t.getLast (by intro e;subst e;simp at ht),(List.dropLast_concat_getLast _).symm⟩
   simp only [List.all_append,Bool.and_eq_true] at ha
   have h1:=ih r (by simpa using ht) ha.1
   have h2:lw c=true:=by simpa using ha.2
   simp [lw] at h2
   rw [Ay]
   simp only [List.length_append,List.length_singleton,Nat.pow_succ]
   omega
 exact key t.length t rfl h
theorem mo {α:Type} (t:List α) (p:α→Bool) (i:Nat) (h:i < t.length):(t.take (i+1)).all p=((t.take i).all p && p t[i]):=by
 rw [List.take_add_one,List.getElem?_eq_getElem h,List.all_append];simp
theorem Eo (t:Tx) (i:Nat) (h:i < t.length):vm (t.take (i+1))=(vm (t.take i) && (if i=0 then lz t[i] else oj t[i])):=by
 unfold vm
 rw [mo t _ i h]
 by_cases hi:i=0
 · subst hi
   have:(t.take (0+1)).take 1=[t[0]]:=by
    cases t with
    | nil=>simp at h
    | cons c r=>simp
   rw [this]
   simp [oj]
   cases lz t[0]<;>simp
 · have e1:(t.take (i+1)).take 1=t.take 1:=by rw [List.take_take,Nat.min_eq_left (by omega)]
   have e2:(t.take i).take 1=t.take 1:=by rw [List.take_take,Nat.min_eq_left (by omega)]
   rw [e1,e2]
   simp [hi,Bool.and_assoc]
theorem Cp (t:Tx) (i:Nat) (h:i < t.length) (hb:(if i=0 then lz t[i] else oj t[i])=false):vm t=false:=by
 unfold vm
 by_cases hi:i=0
 · subst hi
   rw [if_pos rfl] at hb
   cases t with
   | nil=>simp at h
   | cons c r=>simp at hb;simp [hb]
 · rw [if_neg hi] at hb
   have:t.all oj=false:=by rw [List.all_eq_false];exact ⟨t[i],List.getElem_mem h,by simp [hb]⟩
   simp [this]
structure LUrl where
 scheme:Tx
 user:Tx
 host:Tx
 port:Int
 path:Tx
 query:Tx
 frag:Tx
 hasQ:Bool
 hasF:Bool
def LUrl.Small (u:LUrl):Prop:=u.scheme.length < 1099511627776∧u.user.length < 1099511627776∧u.host.length < 1099511627776∧u.path.length < 1099511627776∧u.query.length < 1099511627776∧u.frag.length < 1099511627776∧u.port≤9223372036854775807
def sr (p:Int):Tx:=if 0 < p then 58 :: tz p.toNat else []
theorem Py (p:Int) (h:p≤9223372036854775807):(sr p).length≤20:=by
 unfold sr
 split
 · have:=wh 18 p.toNat (by omega)
   simp;omega
 · simp
def Sg (u:LUrl):Tx:=u.scheme++[58,47,47]++u.host++sr u.port
def oz (u:LUrl):Tx:=
 if qf u.scheme then
  u.scheme++[58,47,47]++(if u.user=[] then [] else u.user++[64])++(u.host++sr u.port++u.path)++(if u.hasQ then 63 :: u.query else [])++(if u.hasF then 35 :: u.frag else [])
 else u.scheme++[58]++u.path
def mp (u:LUrl):Bool:=
 oa u.scheme && (u.hasQ || decide (u.query=[])) && (u.hasF || decide (u.frag=[])) && o0 u.path [63,35] && o0 u.query [35] && o0 u.frag [] && decide ((oz u).length≤100) &&
 (if qf u.scheme then o0 u.user [47,63,35,64] && sq u.host && decide (0≤u.port∧u.port≤65535) && decide (u.port≠qj u.scheme) && decide (0 < u.path.length) && decide ((u.path.getD 0 0).toNat=47)
  else decide (u.user=[]) && decide (u.host=[]) && decide (u.port=0) && !u.hasQ && !u.hasF)
end Go.KP
end
section
namespace Go.KP
def az (t:Tx) (c:UInt8):Tx:=t.take (kw t c)
def ip (t:Tx) (c:UInt8):Tx:=t.drop (kw t c+1)
theorem rp {t:Tx} {c:UInt8} (h:c∉t):az t c=t:=by
 unfold az
 have h1:=q7 t c
 have h2:¬ kw t c < t.length:=fun h'=>h (og.1 h')
 rw [show kw t c=t.length by omega,List.take_length]
theorem Bx {t:Tx} {c:UInt8} (h:c∉t):ip t c=[]:=by
 unfold ip
 have h2:¬ kw t c < t.length:=fun h'=>h (og.1 h')
 exact List.drop_eq_nil_of_le (by omega)
theorem mm (t:Tx) (c:UInt8):(az t c).length≤t.length:=by unfold az;simp;omega
theorem pm (t:Tx) (c:UInt8):(ip t c).length≤t.length:=by unfold ip;simp
def LUrl.zero:LUrl:=⟨[],[],[],0,[],[],[],false,false⟩
def tc (sc r:Tx):Option Int:=
 if 58∈r then
  match om (ip r 58) with
  | some n=>if 1≤n∧n≤65535 then some (if n=qj sc then 0 else n) else none
  | none=>none
 else some 0
def xa (sc r0:Tx):LUrl×Bool:=
 let r1:=az r0 35
 let r2:=az r1 63
 let r3:=az r2 47
 let r4:=if 64∈r3 then ip r3 64 else r3
 match tc sc r4 with
 | none=>(LUrl.zero,false)
 | some p=>
  let u:LUrl:=⟨sc,if 64∈r3 then az r3 64 else [],mi (az r4 58),p,if 47∈r2 then r2.drop (kw r2 47) else [47],ip r1 63,ip r0 35,decide (63∈r1),decide (35∈r0)⟩
  (u,mp u)
def jd (t:Tx):LUrl×Bool:=
 if 58∈t then
  let sc:=mi (az t 58)
  let rest:=ip t 58
  if qf sc then
   if rest.take 2=[47,47] then xa sc (rest.drop 2) else (LUrl.zero,false)
  else
   let u:LUrl:=⟨sc,[],[],0,az (az rest 35) 63,[],[],false,false⟩
   (u,mp u)
 else (LUrl.zero,false)
structure LTarget where
 url:Tx
 prio:Int
 weight:Int
 deriving DecidableEq
structure LPeer where
 target:LTarget
 fails:Int
 retry:Int
 gone:Bool
 deriving DecidableEq
def l0 (x:LTarget):Bool:=
 (jd x.url).2 && qf (jd x.url).1.scheme && !(jd x.url).1.hasF && decide (oz (jd x.url).1=x.url) && decide (1≤x.prio∧x.prio≤9) && decide (1≤x.weight∧x.weight≤9)
def vt (x:LPeer):Bool:=
 l0 x.target && decide (0≤x.fails∧x.fails≤1000000) && decide (0≤x.retry∧x.retry≤1000032) && !(decide (x.fails=0) && decide (x.retry≠0))
def ng:List Tx→List LPeer→Bool
 | _,[]=>true
 | seen,p :: r=>decide (p.target.url∉seen) && ng (seen++[p.target.url]) r
def p6 (l:List LPeer):Bool:=decide (l.length≤4) && l.all vt && ng [] l
end Go.KP
end
section
namespace Go.KP
def nj (t:Tx):Bool:=t.all fun c=>decide (33≤c.toNat∧c.toNat≤126)
def ml (t wo:Tx):Bool:=t.any fun c=>decide (c∈wo)
theorem Wn (t wo:Tx):o0 t wo=(nj t && !ml t wo):=by
 unfold o0 nj ml
 induction t with
 | nil=>rfl
 | cons c r ih=>
  simp only [List.all_cons,List.any_cons,ih]
  cases decide (33≤c.toNat∧c.toNat≤126)<;>cases decide (c∈wo)<;>simp
theorem To (t:Tx):o0 t []=nj t:=by simp [o0,nj]
theorem Bg (a b:Tx):nj (a++b)=(nj a && nj b):=by simp [nj]
theorem y0:∀ (t:Tx) (last:Bool),nr last t=true→nj t=true
 | [],_,_=>rfl
 | c :: r,last,h=>by
  simp only [nr] at h
  split at h
  · cases h
  · rename_i hc
    have ih:=y0 r _ h
    have hh:nj (c :: r)=(decide (33≤c.toNat∧c.toNat≤126) && nj r):=rfl
    rw [hh,ih]
    simp [lz,lw] at hc ⊢
    omega
theorem Nl {t:Tx} (h:sq t=true):nj t=true:=y0 t _ h
def ui (p:Int):Tx:=if p=0 then [] else 58 :: x6 p
def uh (u:LUrl):Tx:=
 if qf u.scheme then
  u.scheme++[58,47,47]++(if u.user=[] then [] else u.user++[64])++u.host++ui u.port++u.path++(if u.hasQ then 63 :: u.query else [])++(if u.hasF then 35 :: u.frag else [])
 else u.scheme++[58]++u.path
theorem zq {u:LUrl} (h:0≤u.port):uh u=oz u:=by
 unfold uh oz
 split
 · have:ui u.port=sr u.port:=by
    unfold ui sr x6
    by_cases h0:u.port=0
    · simp [h0]
    · have g1:0 < u.port:=by omega
      have g2:¬ u.port < 0:=by omega
      simp only [h0,g1,g2,if_true,if_false]
   rw [this];simp
 · rfl
def D2 (u:LUrl):Bool:=
 oa u.scheme && decide (u.user.length+u.host.length+u.path.length+u.query.length+u.frag.length≤100) && decide ((uh u).length≤100) && nj (u.user++u.host++u.path++u.query++u.frag) && !ml u.path [63,35] &&
 (if qf u.scheme then !ml u.user [47,63,35,64] && sq u.host && decide (0≤u.port∧u.port≤65535) && decide (u.port≠qj u.scheme) && decide (0 < u.path.length) && decide ((u.path.getD 0 0).toNat=47) && !ml u.query [35] && (u.hasQ || decide (u.query=[])) && (u.hasF || decide (u.frag=[]))
  else decide (u.user=[]) && decide (u.host=[]) && decide (u.port=0) && decide (u.query=[]) && decide (u.frag=[]) && !u.hasQ && !u.hasF)
theorem Tv (u:LUrl):D2 u=mp u:=by
 by_cases hp:0≤u.port
 · unfold D2 mp
   rw [zq hp]
   simp only [Wn,To,Bg]
   by_cases hw:qf u.scheme=true
   · rw [if_pos hw,if_pos hw]
     rw [Bool.eq_iff_iff]
     have hl:(oz u).length=u.scheme.length+3+(if u.user=[] then 0 else u.user.length+1)+(u.host.length+(sr u.port).length+u.path.length)+(if u.hasQ then u.query.length+1 else 0)+(if u.hasF then u.frag.length+1 else 0):=by
      unfold oz
      rw [if_pos hw]
      simp only [List.length_append]
      congr 1
      · congr 1
        · congr 1
          congr 1
          split<;>simp
        · split<;>simp
      · split<;>simp
     constructor
     · intro h
       simp only [Bool.and_eq_true,Bool.or_eq_true,decide_eq_true_eq,Bool.not_eq_true'] at h ⊢
       obtain ⟨⟨⟨⟨⟨h1,h2⟩,h3⟩,h4⟩,h5⟩,h6⟩:=h
       obtain ⟨⟨⟨⟨⟨⟨⟨⟨a1,a2⟩,a3⟩,a4⟩,a5⟩,a6⟩,a7⟩,a8⟩,a9⟩:=h6
       obtain ⟨⟨⟨⟨b1,b2⟩,b3⟩,b4⟩,b5⟩:=h4
       exact ⟨⟨⟨⟨⟨⟨⟨h1,a8⟩,a9⟩,b3,h5⟩,b4,a7⟩,b5,by simp [ml]⟩,h3⟩,⟨⟨⟨⟨⟨b1,a1⟩,a2⟩,a3⟩,a4⟩,a5⟩,a6⟩
     · intro h
       simp only [Bool.and_eq_true,Bool.or_eq_true,decide_eq_true_eq,Bool.not_eq_true'] at h ⊢
       obtain ⟨⟨⟨⟨⟨⟨⟨c1,c2⟩,c3⟩,c4⟩,c5⟩,c6⟩,c7⟩,c8⟩:=h
       obtain ⟨⟨⟨⟨⟨d1,d2⟩,d3⟩,d4⟩,d5⟩,d6⟩:=c8
       have e:=Nl d2
       refine ⟨⟨⟨⟨⟨c1,?_⟩,c7⟩,?_⟩,c4.2⟩,⟨⟨⟨⟨⟨⟨⟨⟨d1.2,d2⟩,d3⟩,d4⟩,d5⟩,d6⟩,c5.2⟩,c2⟩,c3⟩⟩
       · have q1:u.query.length≤(if u.hasQ then u.query.length+1 else 0):=by
          rcases c2 with h | h
          · rw [h];simp
          · rw [h];simp
         have q2:u.frag.length≤(if u.hasF then u.frag.length+1 else 0):=by
          rcases c3 with h | h
          · rw [h];simp
          · rw [h];simp
         have q3:u.user.length≤(if u.user=[] then 0 else u.user.length+1):=by
          split
          · rename_i h;rw [h];simp
          · omega
         omega
       · exact ⟨⟨⟨⟨d1.1,e⟩,c4.1⟩,c5.1⟩,c6.1⟩
   · rw [if_neg hw,if_neg hw]
     rw [Bool.eq_iff_iff]
     have hl:(oz u).length=u.scheme.length+1+u.path.length:=by
      unfold oz
      rw [if_neg hw]
      simp;omega
     constructor
     · intro h
       simp only [Bool.and_eq_true,Bool.or_eq_true,decide_eq_true_eq,Bool.not_eq_true'] at h ⊢
       obtain ⟨⟨⟨⟨⟨h1,h2⟩,h3⟩,h4⟩,h5⟩,⟨⟨⟨⟨⟨⟨a1,a2⟩,a3⟩,a4⟩,a5⟩,a6⟩,a7⟩⟩:=h
       obtain ⟨⟨⟨⟨b1,b2⟩,b3⟩,b4⟩,b5⟩:=h4
       have e:ml u.frag []=false:=by simp [ml]
       have e2:ml u.query [35]=false:=by rw [a4];rfl
       refine ⟨⟨⟨⟨⟨⟨⟨h1,.inr a4⟩,.inr a5⟩,b3,h5⟩,b4,e2⟩,b5,by simp [ml]⟩,h3⟩,⟨⟨⟨⟨a1,a2⟩,a3⟩,a6⟩,a7⟩⟩
     · intro h
       simp only [Bool.and_eq_true,Bool.or_eq_true,decide_eq_true_eq,Bool.not_eq_true'] at h ⊢
       obtain ⟨⟨⟨⟨⟨⟨⟨c1,c2⟩,c3⟩,c4⟩,c5⟩,c6⟩,c7⟩,⟨⟨⟨⟨d1,d2⟩,d3⟩,d4⟩,d5⟩⟩:=h
       have q:u.query=[]:=by rcases c2 with h | h;(rw [d4] at h;cases h);exact h
       have f:u.frag=[]:=by rcases c3 with h | h;(rw [d5] at h;cases h);exact h
       refine ⟨⟨⟨⟨⟨c1,?_⟩,c7⟩,?_⟩,c4.2⟩,⟨⟨⟨⟨⟨⟨d1,d2⟩,d3⟩,q⟩,f⟩,d4⟩,d5⟩⟩
       · simp [d1,d2,q,f];omega
       · refine ⟨⟨⟨⟨?_,?_⟩,c4.1⟩,c5.1⟩,c6.1⟩<;>simp [d1,d2,nj]
 · have e1:D2 u=false:=by
    unfold D2
    have h1:decide (0≤u.port∧u.port≤65535)=false:=by simp;omega
    have h2:decide (u.port=0)=false:=by simp;omega
    simp [h1,h2]
   have e2:mp u=false:=by
    unfold mp
    have h1:decide (0≤u.port∧u.port≤65535)=false:=by simp;omega
    have h2:decide (u.port=0)=false:=by simp;omega
    simp [h1,h2]
   rw [e1,e2]
end Go.KP
end
section
namespace Go.KP
theorem Az {t:Tx} (h:(jd t).2=true):mp (jd t).1=true:=by
 unfold jd xa at h ⊢
 split at h
 · rename_i h1
   rw [if_pos h1]
   dsimp only at h ⊢
   split at h
   · rename_i h2
     rw [if_pos h2]
     split at h
     · rename_i h3
       rw [if_pos h3]
       split at h
       · cases h
       · exact h
     · cases h
   · rename_i h2
     rw [if_neg h2]
     exact h
 · cases h
theorem zo {u:LUrl} (h:mp u=true):0≤u.port:=by
 unfold mp at h
 simp only [Bool.and_eq_true] at h
 obtain ⟨_,h⟩:=h
 split at h
 · simp only [Bool.and_eq_true,decide_eq_true_eq] at h
   exact h.1.1.1.2.1
 · simp only [Bool.and_eq_true,decide_eq_true_eq] at h
   omega
theorem Ex {u:LUrl} (h:mp u=true) (hf:u.hasF=false):u.frag=[]:=by
 unfold mp at h
 simp only [Bool.and_eq_true,Bool.or_eq_true,decide_eq_true_eq,hf] at h
 rcases h.1.1.1.1.1.2 with h | h
 · cases h
 · exact h
theorem G6 {u:LUrl} (h:mp u=true):(oz u).length≤100:=by
 unfold mp at h
 simp only [Bool.and_eq_true,decide_eq_true_eq] at h
 exact h.1.2
theorem Tt {t:Tx} {c x:UInt8} (h:x∈ip t c):x∈t:=List.mem_of_mem_drop h
theorem Nd {t:Tx} (h:(jd t).1.hasF=true):35∈t:=by
 unfold jd xa at h
 split at h
 · dsimp only at h
   split at h
   · split at h
     · split at h
       · cases h
       · simp only [decide_eq_true_eq] at h
         exact Tt (List.mem_of_mem_drop h)
     · cases h
   · cases h
 · cases h
theorem C7:∀ (n:Nat),(tz n).all lw=true:=by
 intro n
 induction n using Nat.strongRecOn with
 | ind n ih=>
  by_cases h:n < 10
  · rw [sj h]
    simp [lw]
    omega
  · rw [vu h,List.all_append,ih (n / 10) (by omega)]
    simp [lw]
    omega
theorem Dz {t wo:Tx} {c:UInt8} (h:o0 t wo=true) (hc:c∈wo):c∉t:=by
 intro hm
 unfold o0 at h
 rw [List.all_eq_true] at h
 have:=h c hm
 simp [hc] at this
theorem E2:∀ (t:Tx) (last:Bool),nr last t=true→35∉t
 | [],_,_=>by simp
 | c :: r,last,h=>by
  simp only [nr] at h
  split at h
  · cases h
  · rename_i hc
    have ih:=E2 r _ h
    intro hm
    rcases List.mem_cons.1 hm with e | e
    · subst e;apply hc;simp [lz,lw]
    · exact ih e
theorem Qc {s:Tx} (h:qf s=true):35∉s:=by
 simp [qf] at h
 rcases h with h | h<;>subst h<;>decide
def tp (t:Tx):Option Tx:=
 if t.length≤65536 then
  if (jd t).2 && qf (jd t).1.scheme then some (uh { (jd t).1 with frag:=[],hasF:=false }) else none
 else none
theorem T0 (t:Tx):decide (tp t=some t)=((jd t).2 && qf (jd t).1.scheme && !(jd t).1.hasF && decide (oz (jd t).1=t)):=by
 rw [Bool.eq_iff_iff]
 simp only [decide_eq_true_eq,Bool.and_eq_true,Bool.not_eq_true']
 unfold tp
 constructor
 · intro h
   split at h
   · split at h
     · rename_i h1 h2
       simp only [Bool.and_eq_true] at h2
       simp only [Option.some.injEq] at h
       have hok:=Az h2.1
       have hp:=zo hok
       cases hf:(jd t).1.hasF with
       | true=>
        exfalso
        have h35:=Nd hf
        rw [zq (by exact hp)] at h
        have hn:35∉oz { (jd t).1 with frag:=[],hasF:=false }:=by
         have hok2:=hok
         unfold mp at hok2
         simp only [Bool.and_eq_true,Bool.or_eq_true,decide_eq_true_eq,h2.2,if_true] at hok2
         obtain ⟨⟨⟨⟨⟨⟨⟨c1,c2⟩,c3⟩,c4⟩,c5⟩,c6⟩,c7⟩,⟨⟨⟨⟨⟨d1,d2⟩,d3⟩,d4⟩,d5⟩,d6⟩⟩:=hok2
         have e1:=Dz (c:=35) c4 (by simp)
         have e2:=Dz (c:=35) c5 (by simp)
         have e3:=Dz (c:=35) d1 (by simp)
         have e4:=E2 _ _ d2
         have e5:=Qc h2.2
         have e6:35∉tz (jd t).1.port.toNat:=fun hm=>by
          have:=C7 (jd t).1.port.toNat
          rw [List.all_eq_true] at this
          have:=this 35 hm
          simp [lw] at this
         unfold oz sr
         rw [if_pos h2.2]
         dsimp only
         intro hm
         simp only [List.mem_append] at hm
         rcases hm with (((hm | hm) | hm) | hm) | hm
         · rcases hm with hm | hm
           · exact e5 hm
           · simp at hm
         · split at hm
           · simp at hm
           · simp at hm;exact e3 hm
         · rcases hm with (hm | hm) | hm
           · exact e4 hm
           · split at hm
             · simp at hm;exact e6 hm
             · simp at hm
           · exact e1 hm
         · split at hm
           · simp at hm;exact e2 hm
           · simp at hm
         · simp at hm
        rw [h] at hn
        exact hn h35
       | false=>
        have hfr:=Ex hok hf
        have e:{ (jd t).1 with frag:=[],hasF:=false }=(jd t).1:=by
         rw [← hfr,← hf]
        rw [e,zq hp] at h
        exact ⟨⟨h2,rfl⟩,h⟩
     · cases h
   · cases h
 · rintro ⟨⟨⟨h1,h2⟩,hf⟩,h⟩
   have hok:=Az h1
   have hfr:=Ex hok hf
   have hl:=G6 hok
   rw [h] at hl
   rw [if_pos (by omega),h1,h2]
   have e:{ (jd t).1 with frag:=[],hasF:=false }=(jd t).1:=by
    rw [← hfr,← hf]
   rw [e,zq (zo hok),h]
   rfl
theorem Lf (x:LTarget):(decide (tp x.url=some x.url) && decide (1≤x.prio∧x.prio≤9) && decide (1≤x.weight∧x.weight≤9))=l0 x:=by
 rw [T0];rfl
end Go.KP
end
section
namespace Go.KP
theorem J8 (k:Nat) (h:k < 10):(UInt8.ofNat (48+k)).toNat=48+k:=by
 rw [UInt8.toNat_ofNat'];omega
theorem Js (n:Nat):n7 (tz n)=n:=by
 induction n using Nat.strongRecOn with
 | ind n ih=>
  by_cases h:n < 10
  · rw [sj h]
    have:=J8 n h
    simp only [n7,List.foldl_cons,List.foldl_nil,this];omega
  · rw [vu h,Ay,ih (n / 10) (by omega),J8 _ (by omega)]
    omega
theorem K8 (n:Nat):tz n≠[]:=by
 by_cases h:n < 10
 · rw [sj h];simp
 · rw [vu h];simp
theorem Ts (n:Nat) (h0:n≠0):((tz n).getD 0 0).toNat≠48:=by
 induction n using Nat.strongRecOn with
 | ind n ih=>
  by_cases h:n < 10
  · rw [sj h]
    have:=J8 n h
    simp only [List.getD_cons_zero,this];omega
  · rw [vu h]
    have h1:=ih (n / 10) (by omega) (by omega)
    cases hl:tz (n / 10) with
    | nil=>exact absurd hl (K8 _)
    | cons c r=>rw [hl] at h1;simpa using h1
theorem E5 {c:UInt8} (h:lw c=true):UInt8.ofNat (48+(c.toNat - 48))=c:=by
 simp only [lw,decide_eq_true_eq] at h
 apply UInt8.toNat_inj.1
 rw [J8 _ (by omega)];omega
theorem Tr:∀ (k:Nat) (t:Tx),t.length=k→t≠[]→t.all lw=true→((t.getD 0 0).toNat=48→t.length=1)→tz (n7 t)=t:=by
 intro k
 induction k with
 | zero=>intro t ht h;exact absurd (List.eq_nil_of_length_eq_zero ht) h
 | succ k ih=>
  intro t ht hne ha hz
  obtain ⟨r,c,rfl⟩:∃ r c,t=r++[c]:=⟨t.dropLast,t.getLast hne,(List.dropLast_concat_getLast _).symm⟩
  simp only [List.all_append,Bool.and_eq_true] at ha
  have hc:lw c=true:=by simpa using ha.2
  have hc':=hc
  simp only [lw,decide_eq_true_eq] at hc'
  rw [Ay]
  cases r with
  | nil=>
   rw [show n7 []*10+(c.toNat - 48)=c.toNat - 48 by simp [n7]]
   rw [sj (by omega),E5 hc];rfl
  | cons d r=>
   have hd:d.toNat≠48:=fun e=>by
    have:=hz (by simpa using e)
    simp at this
   have hi:=ih (d :: r) (by simpa using ht) (by simp) ha.1 (fun e=>absurd (by simpa using e) hd)
   have hpos:n7 (d :: r)≠0:=fun e=>by
    rw [e,sj (by omega)] at hi
    have h2:UInt8.ofNat 48=d:=by simpa using (List.cons.inj hi).1
    exact hd (by rw [← h2];rfl)
   rw [vu (by omega)]
   have e1:(n7 (d :: r)*10+(c.toNat - 48)) / 10=n7 (d :: r):=by omega
   have e2:(n7 (d :: r)*10+(c.toNat - 48)) % 10=c.toNat - 48:=by omega
   rw [e1,e2,hi,E5 hc]
def pz (t:Tx):Nat:=match t with
 | []=>0
 | c :: r=>if c=45 then r.length else (c :: r).length
theorem Ev (neg:Bool) (n:Nat) (h18:(tz n).length≤18) (hn:neg=true→n≠0):uy neg (tz n)=false:=by
 unfold uy
 have h1:(tz n).length≠0:=fun e=>K8 n (List.eq_nil_of_length_eq_zero e)
 by_cases h0:n=0
 · subst h0
   cases neg with
   | true=>exact absurd rfl (hn rfl)
   | false=>rw [sj (by omega)];simp
 · have h2:=Ts n h0
   have e1:decide ((tz n).length=0∨18 < (tz n).length)=false:=by simp only [decide_eq_false_iff_not];omega
   have e2:decide (((tz n).getD 0 0).toNat=48)=false:=by simp only [decide_eq_false_iff_not];exact h2
   rw [e1,e2];rfl
theorem K6 (n:Int) (h:pz (x6 n)≤18):om (x6 n)=some n:=by
 unfold x6 at h ⊢
 by_cases h0:n < 0
 · rw [if_pos h0] at h ⊢
   have h':(tz (-n).toNat).length≤18:=by simpa [pz] using h
   simp only [om,if_true,so]
   rw [Ev true _ h' (fun _=>by omega),if_neg (by simp),if_pos (C7 _),Js]
   simp;omega
 · rw [if_neg h0] at h ⊢
   cases hl:tz n.toNat with
   | nil=>exact absurd hl (K8 _)
   | cons c r=>
    have hd:=C7 n.toNat
    rw [hl] at hd h
    have hc:c≠45:=fun e=>by subst e;simp [lw] at hd
    have h':(tz n.toNat).length≤18:=by rw [hl];simpa [pz,hc] using h
    simp only [om,hc,if_false]
    rw [← hl]
    simp only [so]
    rw [Ev false _ h' (fun e=>by cases e),if_neg (by simp),if_pos (C7 _),Js]
    simp;omega
theorem yl {t:Tx} {n:Int} (h:om t=some n):x6 n=t∧pz t≤18 ∧
 ∃ u:Tx,u≠[]∧u.all lw=true∧u.length≤18∧((t=45 :: u∧n=-(n7 u:Int))∨(t=u∧n=n7 u)):=by
 have key:∀ (neg:Bool) (u:Tx),so neg u=some n→u≠[]∧u.length≤18∧u.all lw=true∧tz (n7 u)=u∧(neg=true→n7 u≠0)∧n=(if neg then - (n7 u:Int) else (n7 u:Int)):=by
  intro neg u hu
  unfold so at hu
  split at hu
  · cases hu
  · rename_i hb
    split at hu
    · rename_i ha
      have hn:=(Option.some.inj hu).symm
      have hb':uy neg u=false:=by simpa using hb
      unfold uy at hb'
      rw [Bool.or_eq_false_iff] at hb'
      obtain ⟨q1,q2⟩:=hb'
      rw [decide_eq_false_iff_not] at q1
      have hne:u≠[]:=fun e=>q1 (by rw [e];simp)
      have hz:(u.getD 0 0).toNat=48→u.length=1∧neg=false:=fun e=>by
       rw [Bool.and_eq_false_iff] at q2
       rcases q2 with q2 | q2
       · simp only [decide_eq_false_iff_not] at q2;exact absurd e q2
       · rw [Bool.or_eq_false_iff,decide_eq_false_iff_not] at q2
         have:u.length≠0:=fun e=>hne (List.eq_nil_of_length_eq_zero e)
         exact ⟨by omega,q2.2⟩
      have hl:=Tr u.length u rfl hne ha (fun e=>(hz e).1)
      refine ⟨hne,by omega,ha,hl,fun hneg h0=>?_,hn⟩
      rw [h0,sj (by omega)] at hl
      have:=(hz (by rw [← hl];rfl)).2
      rw [hneg] at this;cases this
    · cases hu
 unfold om at h
 split at h
 · cases h
 · rename_i c r
   split at h
   · rename_i hc
     subst hc
     obtain ⟨h1,h2,h3,h4,h5,h6⟩:=key true r h
     simp only [if_true] at h6
     have h5':=h5 rfl
     refine ⟨?_,by simpa [pz] using h2,r,h1,h3,h2,.inl ⟨rfl,h6⟩⟩
     unfold x6
     rw [if_pos (by omega),h6]
     rw [show (- -(n7 r:Int)).toNat=n7 r by omega,h4]
   · rename_i hc
     obtain ⟨h1,h2,h3,h4,h5,h6⟩:=key false (c :: r) h
     have h6:n=(n7 (c :: r):Int):=h6
     refine ⟨?_,by simpa [pz,hc] using h2,c :: r,h1,h3,h2,.inr ⟨rfl,h6⟩⟩
     unfold x6
     rw [if_neg (by omega),h6]
     rw [show ((n7 (c :: r):Int)).toNat=n7 (c :: r) by omega,h4]
end Go.KP
end
section
namespace Go.KP
theorem C6 {t:Tx} (ht:t.length < 1099511627776):(jd t).1.Small:=by
 have hz:LUrl.zero.Small:=by simp [LUrl.Small,LUrl.zero]
 have hA:∀ (t:Tx) c,(az t c).length≤t.length:=mm
 have hB:∀ (t:Tx) c,(ip t c).length≤t.length:=pm
 unfold jd
 split
 · have h1:(mi (az t 58)).length≤t.length:=by have:=hA t 58;simpa [mi] using this
   have h2:=hB t 58
   dsimp only
   split
   · split
     · unfold xa
       dsimp only
       have h3:((ip t 58).drop 2).length≤t.length:=by simp;omega
       generalize (ip t 58).drop 2=r0 at h3
       have h4:=hA r0 35
       have h4':=hB r0 35
       generalize az r0 35=r1 at h4
       have h5:=hA r1 63
       have h5':=hB r1 63
       generalize az r1 63=r2 at h5
       have h6:=hA r2 47
       generalize az r2 47=r3 at h6
       have h7:=hA r3 64
       have h7':(if 64∈r3 then ip r3 64 else r3).length≤r3.length:=by
        split
        · exact hB r3 64
        · omega
       generalize (if 64∈r3 then ip r3 64 else r3)=r4 at h7'
       have h8:(mi (az r4 58)).length≤r4.length:=by have:=hA r4 58;simpa [mi] using this
       split
       · exact hz
       · rename_i p hp
         refine ⟨by show (mi _).length < _;omega,?_,by show (mi _).length < _;omega,?_,by show (ip r1 63).length < _;omega,by show (ip r0 35).length < _;omega,?_⟩
         · show (if 64∈r3 then az r3 64 else []).length < _
           split
           · omega
           · simp
         · show (if 47∈r2 then r2.drop (kw r2 47) else [47]).length < _
           split
           · simp;omega
           · simp
         · show p≤_
           unfold tc at hp
           split at hp
           · split at hp
             · split at hp
               · have:=Option.some.inj hp
                 split at this<;>omega
               · cases hp
             · cases hp
           · have:=Option.some.inj hp;omega
     · exact hz
   · have h3:=hA (ip t 58) 35
     have h4:=hA (az (ip t 58) 35) 63
     refine ⟨by show (mi _).length < _;omega,by simp,by simp,by show (az _ _).length < _;omega,by simp,by simp,by show (0:Int)≤_;omega⟩
 · exact hz
def LTarget.Small (x:LTarget):Prop:=x.url.length < 1099511627776
theorem yk (l:List LPeer) (i:Nat) (h:i < l.length):ng [] (l.take (i+1))=(ng [] (l.take i) && decide (l[i].target.url∉(l.take i).map fun p=>p.target.url)):=by
 have key:∀ (l:List LPeer) (i:Nat) (seen:List Tx) (h:i < l.length),ng seen (l.take (i+1))=(ng seen (l.take i) && decide (l[i].target.url∉seen++(l.take i).map fun p=>p.target.url)):=by
  intro l
  induction l with
  | nil=>intro i seen h;simp at h
  | cons p l ih=>
   intro i seen h
   cases i with
   | zero=>simp [ng]
   | succ i=>
    simp only [List.take_succ_cons,ng,List.getElem_cons_succ,List.map_cons]
    rw [ih i (seen++[p.target.url]) (by simpa using h),Bool.and_assoc]
    congr 2
    simp
 simpa using key l i [] h
theorem uq (l:List LPeer) (i:Nat) (h:ng [] (l.take i)=false):ng [] l=false:=by
 have key:∀ (l:List LPeer) (i:Nat) (seen:List Tx),ng seen (l.take i)=false→ng seen l=false:=by
  intro l
  induction l with
  | nil=>intro i seen h;simp [ng] at h
  | cons p l ih=>
   intro i seen h
   cases i with
   | zero=>simp [ng] at h
   | succ i=>
    simp only [List.take_succ_cons,ng] at h ⊢
    cases hd:decide (p.target.url∉seen) with
    | false=>rfl
    | true=>
     rw [hd] at h
     simp only [Bool.true_and] at h ⊢
     exact ih i _ h
 exact key l i [] h
end Go.KP
end
section
namespace Go.KP
def LUrl.Tiny (u:LUrl):Prop:=u.scheme.length < 1048577∧u.user.length < 1048577∧u.host.length < 1048577∧u.path.length < 1048577∧u.query.length < 1048577∧u.frag.length < 1048577∧(0≤u.port∧u.port≤65535)
theorem Nc {t:Tx} (ht:t.length < 1048577):(jd t).1.Tiny:=by
 have hz:LUrl.zero.Tiny:=by simp [LUrl.Tiny,LUrl.zero]
 have hA:∀ (t:Tx) c,(az t c).length≤t.length:=mm
 have hB:∀ (t:Tx) c,(ip t c).length≤t.length:=pm
 unfold jd
 split
 · have h1:(mi (az t 58)).length≤t.length:=by have:=hA t 58;simpa [mi] using this
   have h2:=hB t 58
   dsimp only
   split
   · split
     · unfold xa
       dsimp only
       have h3:((ip t 58).drop 2).length≤t.length:=by simp;omega
       generalize (ip t 58).drop 2=r0 at h3
       have h4:=hA r0 35
       have h4':=hB r0 35
       generalize az r0 35=r1 at h4
       have h5:=hA r1 63
       have h5':=hB r1 63
       generalize az r1 63=r2 at h5
       have h6:=hA r2 47
       generalize az r2 47=r3 at h6
       have h7:=hA r3 64
       have h7':(if 64∈r3 then ip r3 64 else r3).length≤r3.length:=by
        split
        · exact hB r3 64
        · omega
       generalize (if 64∈r3 then ip r3 64 else r3)=r4 at h7'
       have h8:(mi (az r4 58)).length≤r4.length:=by have:=hA r4 58;simpa [mi] using this
       split
       · exact hz
       · rename_i p hp
         refine ⟨by show (mi _).length < _;omega,?_,by show (mi _).length < _;omega,?_,by show (ip r1 63).length < _;omega,by show (ip r0 35).length < _;omega,?_⟩
         · show (if 64∈r3 then az r3 64 else []).length < _
           split
           · omega
           · simp
         · show (if 47∈r2 then r2.drop (kw r2 47) else [47]).length < _
           split
           · simp;omega
           · simp
         · show 0≤p∧p≤65535
           unfold tc at hp
           split at hp
           · split at hp
             · split at hp
               · have:=Option.some.inj hp
                 split at this<;>omega
               · cases hp
             · cases hp
           · have:=Option.some.inj hp;omega
     · exact hz
   · have h3:=hA (ip t 58) 35
     have h4:=hA (az (ip t 58) 35) 63
     refine ⟨by show (mi _).length < _;omega,by simp,by simp,by show (az _ _).length < _;omega,by simp,by simp,by show (0:Int)≤0∧(0:Int)≤65535;omega⟩
 · exact hz
def o8 (l:List LTarget):Bool:=ng [] (l.map fun t=>⟨t,0,0,false⟩)
theorem Cn (l:List LTarget) (i:Nat) (h:i < l.length):o8 (l.take (i+1))=(o8 (l.take i) && decide (l[i].url∉(l.take i).map fun t=>t.url)):=by
 have:=yk (l.map fun t=>(⟨t,0,0,false⟩:LPeer)) i (by simpa using h)
 unfold o8
 rw [← List.map_take,← List.map_take] at this
 rw [this]
 congr 2
 simp [List.map_map,Function.comp_def]
theorem It (l:List LTarget) (i:Nat) (h:o8 (l.take i)=false):o8 l=false:=by
 unfold o8 at h ⊢
 rw [List.map_take] at h
 exact uq _ i h
theorem C2:∀ (l l':List LPeer) (seen:List Tx),l.map (fun p=>p.target.url)=l'.map (fun p=>p.target.url)→ng seen l=ng seen l'
 | [],[],_,_=>rfl
 | p :: l,p' :: l',seen,h=>by
  simp only [List.map_cons,List.cons.injEq] at h
  simp only [ng,h.1]
  rw [C2 l l' _ h.2]
 | [],_ :: _,_,h=>by simp at h
 | _ :: _,[],_,h=>by simp at h
theorem Is (l:List LPeer):o8 (l.map fun p=>p.target)=ng [] l:=by
 unfold o8
 exact C2 _ _ _ (by simp [List.map_map,Function.comp_def])
end Go.KP
end
section
namespace Go.KP
def Wl (now:Int) (x:LPeer):Bool:=!x.gone && decide (x.retry≤now)
def chMatch (now b:Int) (x:LPeer):Bool:=Wl now x && decide (x.target.prio=b)
def chSum (now b:Int):List LPeer→Int
 | []=>0
 | x :: l=>(if chMatch now b x then x.target.weight else 0)+chSum now b l
structure ChInv (now:Int) (l:List LPeer) (a:Int×Int):Prop where
 lo:0≤a.2
 hi:a.2≤9*l.length
 sum:a.2=if a.2=0 then 0 else chSum now a.1 l
 low:∀ x∈l,Wl now x=true→a.1≤x.target.prio∧0 < a.2
 nine:a.2≠0→1≤a.1∧a.1≤9
end Go.KP
end
section
namespace Go.KP
def I0 (k:Nat) (out:Tx):Tx:=if h:k=0 then out else I0 (k / 10) (UInt8.ofNat (48+k % 10) :: out)
termination_by k
decreasing_by omega
theorem Tp (out:Tx):I0 0 out=out:=by rw [I0];simp
theorem Wo {k:Nat} (h:k≠0) (out:Tx):I0 k out=I0 (k / 10) (UInt8.ofNat (48+k % 10) :: out):=by
 conv=>lhs;rw [I0]
 simp [h]
def lmk (k:Nat):Tx:=if k=0 then [109,48] else 109 :: I0 k []
def t8 (k:Nat):LPeer:=⟨⟨lmk k,(k+1:Nat),(k+2:Nat)⟩,(k+3:Nat),(k+4:Nat),decide ((k+5) % 3=0)⟩
end Go.KP
end
section
namespace Go.KP
end Go.KP
end
section
namespace Go.KP
def io {α:Type} (f:α→Nat) (l:List α):Nat:=(l.map f).sum
def zS {α:Type} (f:α→Nat) (l:List α):Nat:=l.length+io f l
def bdS {α:Type} (B:Nat) (p:α→Prop) (l:List α):Prop:=l.length≤B∧∀ x∈l,p x
def cut (left:Int) (n:Nat):Int:=if left - n < 0 then -1 else left - n
theorem bl {left:Int} {n:Nat} (h:left - n < 0):cut left n=-1:=if_pos h
theorem j9 {left:Int} {n:Nat} (h:¬ left - n < 0):cut left n=left - n:=if_neg h
theorem Uz {left:Int} {n:Nat} (h:¬ cut left n < 0) (h0:0≤left):(n:Int)≤left∧cut left n=left - n:=by
 unfold cut at *
 split at h<;>rename_i h1
 · omega
 · rw [if_neg h1];omega
theorem q8 {α:Type} {f:α→Nat} (l:List α) {i:Nat} (h:i < l.length):io f (l.take (i+1))=io f (l.take i)+f l[i]:=by
 unfold io
 rw [List.take_add_one,List.getElem?_eq_getElem h,List.map_append,List.sum_append]
 simp
theorem u7 {α:Type} {f:α→Nat} (l:List α) (i:Nat):io f (l.take i)≤io f l:=by
 unfold io
 conv=>rhs;rw [← List.take_append_drop i l]
 rw [List.map_append,List.sum_append]
 omega
theorem Wj {α:Type} {f:α→Nat} {l:List α} {x:α} (h:x∈l):f x≤io f l:=by
 unfold io
 induction l with
 | nil=>cases h
 | cons y l ih=>
  rcases List.mem_cons.1 h with rfl | h
  · simp
  · have:=ih h;simp;omega
theorem yw {α:Type} {B:Nat} {f:α→Nat} {p:α→Prop} {l:List α} (hp:∀ x,f x≤B→p x) (h:zS f l≤B):bdS B p l:=by
 unfold zS at h
 exact ⟨by omega,fun x hx=>hp x (by have:=Wj (f:=f) hx;omega)⟩
def mu (x:LTarget):Nat:=x.url.length
def nt (B:Nat) (x:LTarget):Prop:=x.url.length≤B
theorem F9 {B:Nat} {x:LTarget} (h:mu x≤B):nt B x:=by
 unfold mu at h
 unfold nt
 exact by omega
def pf (x:LPeer):Nat:=mu x.target
def rc (B:Nat) (x:LPeer):Prop:=nt B x.target
theorem Vk {B:Nat} {x:LPeer} (h:pf x≤B):rc B x:=by
 unfold pf at h
 unfold rc
 exact F9 (by omega)
structure LGroup where
 name:Tx
 age:Int
 targets:List LTarget
 deriving DecidableEq
def uv (x:LGroup):Nat:=x.name.length+zS mu x.targets
def sl (B:Nat) (x:LGroup):Prop:=x.name.length≤B∧bdS B (nt B) x.targets
theorem S3 {B:Nat} {x:LGroup} (h:uv x≤B):sl B x:=by
 unfold uv at h
 unfold sl
 exact ⟨by omega,yw (fun _ h=>F9 h) (show zS mu x.targets≤B by omega)⟩
structure LRule where
 name:Tx
 words:List Tx
 deriving DecidableEq
def pq (x:LRule):Nat:=x.name.length+zS List.length x.words
def oy (B:Nat) (x:LRule):Prop:=x.name.length≤B∧bdS B (fun t=>t.length≤B) x.words
theorem Vi {B:Nat} {x:LRule} (h:pq x≤B):oy B x:=by
 unfold pq at h
 unfold oy
 exact ⟨by omega,yw (fun _ h=>h) (show zS List.length x.words≤B by omega)⟩
structure LPolicy where
 reportTo:Tx
 uris:List Tx
 rules:List LRule
 deriving DecidableEq
def sa (x:LPolicy):Nat:=x.reportTo.length+zS List.length x.uris+zS pq x.rules
def p9 (B:Nat) (x:LPolicy):Prop:=x.reportTo.length≤B∧bdS B (fun t=>t.length≤B) x.uris∧bdS B (oy B) x.rules
theorem Pk {B:Nat} {x:LPolicy} (h:sa x≤B):p9 B x:=by
 unfold sa at h
 unfold p9
 exact ⟨by omega,yw (fun _ h=>h) (show zS List.length x.uris≤B by omega),yw (fun _ h=>Vi h) (show zS pq x.rules≤B by omega)⟩
structure LViolation where
 document:Tx
 referrer:Tx
 blocked:Tx
 source:Tx
 directive:Tx
 sample:Tx
 line:Int
 column:Int
 redirected:Bool
 deriving DecidableEq
structure LReport where
 id:Int
 born:Int
 tries:Int
 body:Tx
 deriving DecidableEq
def mj (x:LReport):Nat:=x.body.length
def ov (B:Nat) (x:LReport):Prop:=x.body.length≤B
theorem Pj {B:Nat} {x:LReport} (h:mj x≤B):ov B x:=by
 unfold mj at h
 unfold ov
 exact by omega
structure LQueue where
 items:List LReport
 recent:List Tx
 deriving DecidableEq
def Bp (x:LQueue):Nat:=zS mj x.items+zS List.length x.recent
def tk (B:Nat) (x:LQueue):Prop:=bdS B (ov B) x.items∧bdS B (fun t=>t.length≤B) x.recent
theorem S2 {B:Nat} {x:LQueue} (h:Bp x≤B):tk B x:=by
 unfold Bp at h
 unfold tk
 exact ⟨yw (fun _ h=>Pj h) (show zS mj x.items≤B by omega),yw (fun _ h=>h) (show zS List.length x.recent≤B by omega)⟩
structure LChannel where
 group:LGroup
 peers:List LPeer
 queue:LQueue
 deriving DecidableEq
def kc (x:LChannel):Nat:=uv x.group+zS pf x.peers+Bp x.queue
def md (B:Nat) (x:LChannel):Prop:=sl B x.group∧bdS B (rc B) x.peers∧tk B x.queue
theorem L7 {B:Nat} {x:LChannel} (h:kc x≤B):md B x:=by
 unfold kc at h
 unfold md
 exact ⟨S3 (by omega),yw (fun _ h=>Vk h) (show zS pf x.peers≤B by omega),S2 (by omega)⟩
structure LEntry where
 kind:Int
 id:Int
 at_:Int
 deriving DecidableEq
def Dj (B:Nat) (x:LEntry):Prop:=True
structure LWire where
 at_:Int
 status:Int
 group:Tx
 url:Tx
 ids:List Int
 body:Tx
 lost:Bool
 deriving DecidableEq
def pp (x:LWire):Nat:=x.group.length+x.url.length+x.ids.length+x.body.length
def ph (B:Nat) (x:LWire):Prop:=x.group.length≤B∧x.url.length≤B∧x.ids.length≤B∧x.body.length≤B
theorem Vh {B:Nat} {x:LWire} (h:pp x≤B):ph B x:=by
 unfold pp at h
 unfold ph
 exact ⟨by omega,by omega,by omega,by omega⟩
structure LPipe where
 channels:List LChannel
 policy:LPolicy
 now:Int
 next:Int
 log:List LEntry
 wires:List LWire
 deriving DecidableEq
def Ga (x:LPipe):Nat:=zS kc x.channels+sa x.policy+x.log.length+zS pp x.wires
def pi (B:Nat) (x:LPipe):Prop:=bdS B (md B) x.channels∧p9 B x.policy∧x.log.length≤B∧bdS B (ph B) x.wires
theorem Vj {B:Nat} {x:LPipe} (h:Ga x≤B):pi B x:=by
 unfold Ga at h
 unfold pi
 exact ⟨yw (fun _ h=>L7 h) (show zS kc x.channels≤B by omega),Pk (by omega),by omega,yw (fun _ h=>Vh h) (show zS pp x.wires≤B by omega)⟩
structure LEvent where
 kind:Int
 draw:Int
 status:Int
 ticks:Int
 text:Tx
 name:Tx
 violation:LViolation
 lost:Bool
 deriving DecidableEq
structure LParcel where
 id:Int
 age:Int
 body:Tx
 deriving DecidableEq
structure LBox where
 ids:List Int
 times:List Int
 bodies:List Tx
 deriving DecidableEq
end Go.KP
end
section
namespace Go.KP
def ox (p q:UInt8→Bool) (t:Tx):Bool:=(t.take 1).all p && t.all q
theorem uj {p q:UInt8→Bool} (hpq:∀ c,p c=true→q c=true) (t:Tx) (i:Nat) (h:i < t.length):ox p q (t.take (i+1))=(ox p q (t.take i) && (if i=0 then p t[i] else q t[i])):=by
 unfold ox
 rw [mo t _ i h]
 by_cases hi:i=0
 · subst hi
   have:(t.take (0+1)).take 1=[t[0]]:=by
    cases t with
    | nil=>simp at h
    | cons c r=>simp
   rw [this]
   have:=hpq t[0]
   cases hp:p t[0]<;>simp_all
 · have e1:(t.take (i+1)).take 1=t.take 1:=by rw [List.take_take,Nat.min_eq_left (by omega)]
   have e2:(t.take i).take 1=t.take 1:=by rw [List.take_take,Nat.min_eq_left (by omega)]
   rw [e1,e2]
   simp [hi,Bool.and_assoc]
theorem td {p q:UInt8→Bool} (t:Tx) (i:Nat) (h:i < t.length) (hb:(if i=0 then p t[i] else q t[i])=false):ox p q t=false:=by
 unfold ox
 by_cases hi:i=0
 · subst hi
   rw [if_pos rfl] at hb
   cases t with
   | nil=>simp at h
   | cons c r=>simp at hb;simp [hb]
 · rw [if_neg hi] at hb
   have:t.all q=false:=by rw [List.all_eq_false];exact ⟨t[i],List.getElem_mem h,by simp [hb]⟩
   simp [this]
def isUp (c:UInt8):Bool:=decide (65≤c.toNat∧c.toNat≤90)
def rq (c:UInt8):Bool:=lz c || isUp c || decide (c.toNat=95)
def ut (c:UInt8):Bool:=rq c || lw c
def re (t:Tx):Bool:=decide (1≤t.length∧t.length≤12) && ox rq ut t
def tt (c:UInt8):Bool:=lz c || decide (c.toNat=45)
def su (t:Tx):Bool:=decide (1≤t.length∧t.length≤24) && ox lz tt t
def ta (l:List Tx):Bool:=decide l.Nodup
theorem P5 (l:List Tx) (x:Tx):(l++[x]).Nodup↔l.Nodup∧x∉l:=by
 rw [List.nodup_append]
 constructor
 · rintro ⟨h1,_,h3⟩
   exact ⟨h1,fun hx=>h3 x hx x (by simp) rfl⟩
 · rintro ⟨h1,h2⟩
   refine ⟨h1,by simp,fun a ha b hb e=>?_⟩
   rw [List.mem_singleton] at hb
   subst hb;subst e
   exact h2 ha
theorem u1 (l:List Tx) (i:Nat) (h:i < l.length):ta (l.take (i+1))=(ta (l.take i) && decide (l[i]∉l.take i)):=by
 unfold ta
 rw [List.take_add_one,List.getElem?_eq_getElem h,Bool.eq_iff_iff,Bool.and_eq_true,decide_eq_true_eq,decide_eq_true_eq,decide_eq_true_eq]
 exact P5 _ _
theorem Ez (l:List Tx) (i:Nat) (h:ta (l.take i)=false):ta l=false:=by
 unfold ta at *
 rw [decide_eq_false_iff_not] at *
 exact fun hn=>h (hn.sublist (List.take_sublist i l))
def qz {α:Type} (l:List α) (p:α→Bool):Int:=match l.findIdx? p with
 | some i=>i
 | none=>-1
theorem xb {α:Type} (l:List α) (p:α→Bool):decide (0≤qz l p)=l.any p:=by
 unfold qz
 cases h:l.findIdx? p with
 | none=>
  rw [List.findIdx?_eq_none_iff] at h
  rw [Bool.eq_iff_iff]
  simp only [decide_eq_true_eq,List.any_eq_true]
  constructor
  · intro h;omega
  · rintro ⟨x,hx,hp⟩;rw [h x hx] at hp;cases hp
 | some i=>
  rw [List.findIdx?_eq_some_iff_getElem] at h
  obtain ⟨hi,hp,_⟩:=h
  show decide (0≤(i:Int))=_
  rw [decide_eq_true (by omega)]
  symm
  rw [List.any_eq_true]
  exact ⟨l[i],List.getElem_mem hi,hp⟩
theorem p7 {α:Type} {l:List α} {p:α→Bool} {i:Nat} (hi:i < l.length) (hp:p l[i]=true) (h:∀ k (hk:k < i),p (l[k]'(by omega))=false):qz l p=i:=by
 unfold qz
 have:l.findIdx? p=some i:=by
  rw [List.findIdx?_eq_some_iff_getElem]
  exact ⟨hi,hp,fun j hj=>by simp [h j hj]⟩
 rw [this]
theorem o3 {α:Type} {l:List α} {p:α→Bool} (h:∀ k (hk:k < l.length),p l[k]=false):qz l p=-1:=by
 unfold qz
 have:l.findIdx? p=none:=by
  rw [List.findIdx?_eq_none_iff]
  intro x hx
  obtain ⟨k,hk,rfl⟩:=List.getElem_of_mem hx
  exact h k hk
 rw [this]
theorem D1 {α:Type} (l:List α) (p:α→Bool):(qz l p=-1∧l.find? p=none)∨∃ i,∃ h:i < l.length,qz l p=i∧l.find? p=some l[i]:=by
 unfold qz
 cases h:l.findIdx? p with
 | none=>
  rw [List.findIdx?_eq_none_iff] at h
  exact .inl ⟨rfl,List.find?_eq_none.2 fun x hx=>by simp [h x hx]⟩
 | some i=>
  rw [List.findIdx?_eq_some_iff_getElem] at h
  obtain ⟨hi,hp,hlt⟩:=h
  exact .inr ⟨i,hi,rfl,List.find?_eq_some_iff_getElem.2 ⟨hp,i,hi,rfl,fun j hj=>by simpa using hlt j hj⟩⟩
theorem D0 {α:Type} (f:α→Tx) (l:List α) (i:Nat) (h:i < l.length):qz l (fun x=>decide (f x=f l[i]))=(i:Int)↔f l[i]∉(l.map f).take i:=by
 constructor
 · intro hl hm
   unfold qz at hl
   rw [List.mem_take_iff_getElem] at hm
   obtain ⟨k,hk,hke⟩:=hm
   have hk1:k < i:=by omega
   rw [List.getElem_map] at hke
   split at hl
   · rename_i j hj
     have:j=i:=by omega
     subst this
     rw [List.findIdx?_eq_some_iff_getElem] at hj
     have:=hj.2.2 k hk1
     simp [hke] at this
   · omega
 · intro hm
   refine p7 h (by simp) fun k hk=>?_
   rw [decide_eq_false_iff_not]
   intro e
   exact hm (by rw [List.mem_take_iff_getElem];exact ⟨k,by simp;omega,by rw [List.getElem_map];exact e⟩)
theorem y5 {α β:Type} (f:β→α→β) (b:β) (l:List α) (i:Nat) (h:i < l.length):(l.take (i+1)).foldl f b=f ((l.take i).foldl f b) l[i]:=by
 rw [List.take_add_one,List.getElem?_eq_getElem h,List.foldl_append];rfl
def Bz (t:Tx):Option Tx:=
 if (jd t).2 && qf (jd t).1.scheme then some (oz { (jd t).1 with frag:=[],hasF:=false }) else none
theorem C8 {t:Tx} {c:UInt8} (h:c∈t):t.length=(az t c).length+1+(ip t c).length:=by
 have:=og.2 h
 unfold az ip
 simp;omega
theorem Ni (t:Tx):(mi t).length=t.length:=by simp [mi]
theorem Tm {sc r:Tx} {p:Int} (h:tc sc r=some p):r.length≤(az r 58).length+21:=by
 unfold tc at h
 split at h
 · rename_i hm
   rw [C8 hm]
   split at h
   · rename_i n hn
     obtain ⟨_,_,u,_,_,h3,h4⟩:=yl hn
     rcases h4 with ⟨h4,_⟩ | ⟨h4,_⟩
     · rw [h4];simp;omega
     · rw [h4];omega
   · cases h
 · rename_i hm
   rw [rp hm];omega
theorem Qd {t:Tx} (h:(jd t).2=true) (hw:qf (jd t).1.scheme=true):t.length≤200:=by
 have hok:=Az h
 have hlen:=G6 hok
 unfold jd at h hw hlen
 split at h
 · rename_i h58
   rw [if_pos h58] at hw hlen
   dsimp only at h hw hlen
   split at h
   · rename_i hsc
     rw [if_pos hsc] at hw hlen
     split at h
     · rename_i h2
       rw [if_pos h2] at hw hlen
       rw [C8 h58]
       have hr:(ip t 58).length≤2+((ip t 58).drop 2).length:=by simp;omega
       have hscl:=Ni (az t 58)
       generalize (ip t 58).drop 2=r0 at *
       generalize mi (az t 58)=sc at *
       unfold xa at h hw hlen
       dsimp only at h hw hlen
       have k0:r0.length≤(az r0 35).length+(if 35∈r0 then 1+(ip r0 35).length else 0):=by
        split
        · rename_i hm;rw [C8 hm];omega
        · rename_i hm;rw [rp hm];omega
       generalize az r0 35=r1 at *
       have k1:r1.length≤(az r1 63).length+(if 63∈r1 then 1+(ip r1 63).length else 0):=by
        split
        · rename_i hm;rw [C8 hm];omega
        · rename_i hm;rw [rp hm];omega
       generalize az r1 63=r2 at *
       have k2:r2.length≤(az r2 47).length+(if 47∈r2 then r2.drop (kw r2 47) else [47]).length:=by
        split
        · unfold az;simp;omega
        · rename_i hm;rw [rp hm];omega
       generalize (if 47∈r2 then r2.drop (kw r2 47) else [47])=pa at *
       generalize az r2 47=r3 at *
       have k3:r3.length≤(if 64∈r3 then ip r3 64 else r3).length+1+(if 64∈r3 then az r3 64 else []).length:=by
        split
        · rename_i hm;rw [C8 hm];omega
        · simp
       generalize (if 64∈r3 then ip r3 64 else r3)=r4 at *
       generalize (if 64∈r3 then az r3 64 else [])=us at *
       cases hp:tc sc r4 with
       | none=>rw [hp] at h;cases h
       | some p=>
        rw [hp] at hlen
        have k4:=Tm hp
        have k5:=Ni (az r4 58)
        dsimp only at hlen
        unfold oz at hlen
        dsimp only at hlen
        rw [if_pos hsc] at hlen
        simp only [List.length_append,List.length_cons,List.length_nil] at hlen
        have q1:us.length≤(if us=[] then [] else us++[64]).length:=by split<;>simp_all
        have q2:(if 63∈r1 then 1+(ip r1 63).length else 0)≤(if decide (63∈r1)=true then 63 :: ip r1 63 else []).length:=by
         by_cases hm:63∈r1<;>simp [hm];omega
        have q3:(if 35∈r0 then 1+(ip r0 35).length else 0)≤(if decide (35∈r0)=true then 35 :: ip r0 35 else []).length:=by
         by_cases hm:35∈r0<;>simp [hm];omega
        omega
     · cases h
   · rename_i hsc
     rw [if_neg hsc] at hw
     exact absurd hw hsc
 · cases h
theorem I5 (t:Tx):tp t=Bz t:=by
 unfold tp Bz
 by_cases hb:((jd t).2 && qf (jd t).1.scheme)=true
 · have h:=hb
   simp only [Bool.and_eq_true] at h
   have hl:=Qd h.1 h.2
   rw [if_pos (by omega),if_pos hb,if_pos hb]
   rw [zq]
   exact (zo (Az h.1):0≤(jd t).1.port)
 · rw [if_neg hb,if_neg hb];split<;>rfl
def uw:Tx:=[114,101,112,111,114,116,45,116,111]
def rm:Tx:=[114,101,112,111,114,116,45,117,114,105]
def p5 (w:Tx):Bool:=decide (w≠[]) && w.all fun c=>!decide (c.toNat=32∨c.toNat=9∨c.toNat=59)
def ol (r:LRule):Bool:=su r.name && decide (r.words.length≤8) && r.words.all p5
def oe (l:List LRule) (name:Tx):List Tx:=match l.find? (fun r=>decide (r.name=name)) with
 | some r=>r.words
 | none=>[]
def wl (ws:List Tx):Tx:=match ws with
 | w :: _=>if re w then w else []
 | []=>[]
def ue (l:List LRule):Tx:=wl (oe l uw)
def l1 (acc:List Tx) (w:Tx):List Tx:=match Bz w with
 | some u=>if u∉acc∧acc.length < 4 then acc++[u] else acc
 | none=>acc
def ud (l:List LRule):List Tx:=(oe l rm).foldl l1 []
theorem Mc (acc:List Tx) (w:Tx) (h:acc.length≤4):(l1 acc w).length≤4:=by
 unfold l1
 split
 · split
   · simp;omega
   · exact h
 · exact h
theorem zd:∀ (l:List Tx) (acc:List Tx),acc.length≤4→(l.foldl l1 acc).length≤4
 | [],_,h=>h
 | w :: l,acc,h=>zd l _ (Mc acc w h)
def o2 (p:LPolicy):Bool:=
 decide (p.rules.length≤8) && (p.rules.all ol && ta (p.rules.map fun r=>r.name)) && (decide (p.reportTo=ue p.rules) && decide (p.uris=ud p.rules))
def uf (g:LGroup):Bool:=
 re g.name && decide (1≤g.age∧g.age≤100) && decide (1≤g.targets.length∧g.targets.length≤4) && (g.targets.all l0 && ta (g.targets.map fun t=>t.url))
end Go.KP
end
section
namespace Go.KP
def mkL {α:Type} (f:Nat→α) (w n k:Nat):List α:=(List.range n).map fun j=>f (k+w*j)
theorem sf {α:Type} (f:Nat→α) (w n k:Nat):(mkL f w n k).length=n:=by simp [mkL]
theorem mkL_at {α:Type} {f:Nat→α} {w n k j:Nat} (h:j < n):(mkL f w n k)[j]'(by rw [sf];exact h)=f (k+w*j):=by simp [mkL]
theorem Wh {α:Type} (f:Nat→α) (w i k:Nat):mkL f w (i+1) k=mkL f w i k++[f (k+w*i)]:=by simp [mkL,List.range_succ]
def mkU {α:Type} (f:Nat→α) (w:Nat) (l:List α) (k i:Nat):List α:=mkL f w i k++l.drop i
theorem x2 {α:Type} (f:Nat→α) (w:Nat) (l:List α) (k:Nat):mkU f w l k 0=l:=by simp [mkU,mkL]
theorem Au {α:Type} (f:Nat→α) (w:Nat) (l:List α) (k:Nat):mkU f w l k l.length=mkL f w l.length k:=by simp [mkU]
theorem At {α:Type} (f:Nat→α) (w:Nat) (l:List α) (k i:Nat) (h:i≤l.length):(mkU f w l k i).length=l.length:=by simp [mkU,sf];omega
theorem As {α:Type} (f:Nat→α) (w:Nat) (l:List α) (k i:Nat) (h:i < l.length):(mkU f w l k i).set i (f (k+w*i))=mkU f w l k (i+1):=by
 unfold mkU
 rw [List.set_append_right _ _ (by rw [sf];exact Nat.le_refl _),sf,Nat.sub_self,List.drop_eq_getElem_cons h,List.set_cons_zero,Wh,List.append_assoc]
 rfl
def ro (k:Nat):LTarget:=⟨lmk k,((k+1:Nat):Int),((k+2:Nat):Int)⟩
theorem J9 (l:List LTarget):o8 l=ta (l.map fun t=>t.url):=by
 have key:∀ i,i≤l.length→o8 (l.take i)=ta ((l.map fun t=>t.url).take i):=by
  intro i
  induction i with
  | zero=>intro _;simp [o8,ta,ng]
  | succ i ih=>
   intro hi
   rw [Cn l i (by omega),u1 _ i (by simp;omega),ih (by omega)]
   simp only [List.getElem_map,List.map_take]
 have:=key l.length (Nat.le_refl _)
 rw [List.take_length,List.take_of_length_le (by simp)] at this
 exact this
end Go.KP
end
section
namespace Go.KP
def qg (n:Nat) (p:Nat→Bool):Bool:=(List.range n).all p
theorem q9 (p:Nat→Bool):qg 0 p=true:=rfl
theorem qo (p:Nat→Bool) (n:Nat):qg (n+1) p=(qg n p && p n):=by simp [qg,List.range_succ]
theorem vk {p:Nat→Bool} {n i:Nat} (hi:i < n) (h:p i=false):qg n p=false:=by
 unfold qg
 rw [List.all_eq_false]
 exact ⟨i,List.mem_range.2 hi,by simp [h]⟩
def pj (r:LReport):Bool:=decide (1≤r.id∧r.id≤1000000) && decide (0≤r.born∧r.born≤1000000) && decide (0≤r.tries∧r.tries≤3) && decide (1≤r.body.length∧r.body.length≤8000)
def w7 (l:List LReport) (i:Nat):Bool:=match l[i]? with
 | some r=>pj r && (match i with
  | 0=>true
  | j+1=>match l[j]? with
   | some s=>decide (s.id < r.id) && decide (s.born≤r.born)
   | none=>true)
 | none=>true
theorem Gr {l:List LReport} (h:0 < l.length):w7 l 0=pj l[0]:=by
 unfold w7
 rw [List.getElem?_eq_getElem h]
 simp
theorem Gs {l:List LReport} {j:Nat} (h:j+1 < l.length):w7 l (j+1)=(pj l[j+1] && (decide (l[j].id < l[j+1].id) && decide (l[j].born≤l[j+1].born))):=by
 have e:=List.getElem?_eq_getElem (show j < l.length by omega)
 simp only [w7,List.getElem?_eq_getElem h,e]
def Be (l:List Tx) (i:Nat):Bool:=match l[i]? with
 | some t=>decide (1≤t.length∧t.length≤8000) && decide (t∉l.take i)
 | none=>true
theorem Mt {l:List Tx} {i:Nat} (h:i < l.length):Be l i=(decide (1≤l[i].length∧l[i].length≤8000) && decide (l[i]∉l.take i)):=by
 unfold Be
 rw [List.getElem?_eq_getElem h]
def nc (q:LQueue):Bool:=decide (q.items.length≤5) && decide (q.recent.length≤6) && (qg q.items.length (w7 q.items) && qg q.recent.length (Be q.recent))
def mq (next now:Int) (c:LChannel):Bool:=uf c.group && p6 c.peers && decide (c.peers.map (fun p=>p.target)=c.group.targets) && nc c.queue && c.queue.items.all fun r=>decide (r.id < next) && decide (r.born≤now)
def zx (next:Int) (l:List Int) (i:Nat):Bool:=match l[i]? with
 | some r=>decide (1≤r∧r≤next - 1) && (match i with
  | 0=>true
  | j+1=>match l[j]? with
   | some s=>decide (s < r)
   | none=>true)
 | none=>true
theorem Jt {next:Int} {l:List Int} (h:0 < l.length):zx next l 0=decide ((1:Int)≤l[0]∧l[0]≤next - 1):=by
 unfold zx
 rw [List.getElem?_eq_getElem h]
 simp
theorem Ju {next:Int} {l:List Int} {j:Nat} (h:j+1 < l.length):zx next l (j+1)=(decide ((1:Int)≤l[j+1]∧l[j+1]≤next - 1) && decide (l[j] < l[j+1])):=by
 have e:=List.getElem?_eq_getElem (show j < l.length by omega)
 simp only [zx,List.getElem?_eq_getElem h,e]
def ow (next now:Int) (w:LWire):Bool:=decide (0≤w.at_∧w.at_≤now) && decide (100≤w.status∧w.status≤599) && re w.group && decide (w.url.length≤100) && decide (1≤w.ids.length∧w.ids.length≤3) && decide (w.body.length≤65536) && qg w.ids.length (zx next w.ids)
def vh (next now:Int) (l:List LEntry) (i:Nat):Bool:=match l[i]? with
 | some x=>decide (1≤x.kind∧x.kind≤7) && decide (1≤x.id∧x.id≤next - 1) && decide ((match i with | 0=>0 | j+1=>match l[j]? with | some y=>y.at_ | none=>0)≤x.at_∧x.at_≤now)
 | none=>true
def Bn (l:List LEntry):Nat→Int
 | 0=>0
 | j+1=>match l[j]? with | some y=>y.at_ | none=>0
theorem Hy {next now:Int} {l:List LEntry} {i:Nat} (h:i < l.length):vh next now l i=(decide (1≤l[i].kind∧l[i].kind≤7) && decide (1≤l[i].id∧l[i].id≤next - 1) && decide (Bn l i≤l[i].at_∧l[i].at_≤now)):=by
 unfold vh
 rw [List.getElem?_eq_getElem h]
 cases i<;>rfl
theorem B9 {l:List LEntry} {i:Nat} (h:i < l.length):Bn l (i+1)=l[i].at_:=by
 simp only [Bn,List.getElem?_eq_getElem h]
theorem Dd {next now:Int} {l:List LEntry}:∀ {i:Nat},i≤l.length→qg i (vh next now l)=true→0≤Bn l i
 | 0,_,_=>Int.le_refl 0
 | i+1,hi,h=>by
  rw [qo,Bool.and_eq_true] at h
  have ih:=Dd (i:=i) (by omega) h.1
  have h2:=h.2
  rw [Hy (by omega)] at h2
  simp only [Bool.and_eq_true,decide_eq_true_eq] at h2
  rw [B9 (by omega)]
  omega
def uk (p:LPipe) (i:Nat):Bool:=match p.channels[i]? with
 | some c=>decide (c.group.name∉(p.channels.map fun c=>c.group.name).take i) && mq p.next p.now c
 | none=>true
theorem J0 {p:LPipe} {i:Nat} (h:i < p.channels.length):uk p i=(decide (p.channels[i].group.name∉(p.channels.map fun c=>c.group.name).take i) && mq p.next p.now p.channels[i]):=by
 unfold uk
 rw [List.getElem?_eq_getElem h]
def lq (p:LPipe):Bool:=decide (p.channels.length≤5) && o2 p.policy && decide (0≤p.now∧p.now≤1000000) && decide (1≤p.next∧p.next≤1000000) && decide (p.log.length≤4096) && decide (p.wires.length≤4096) &&
 (qg p.channels.length (uk p) && qg p.log.length (vh p.next p.now p.log) && p.wires.all (ow p.next p.now))
theorem C3 {q:LQueue} {i:Nat} (hi:i < q.items.length) (h:w7 q.items i=false):nc q=false:=by
 unfold nc;rw [vk hi h];simp
theorem C4 {q:LQueue} {i:Nat} (hi:i < q.recent.length) (h:Be q.recent i=false):nc q=false:=by
 unfold nc;rw [vk hi h];simp
end Go.KP
end
section
namespace Go.PW
open Go.RowKit Go.KP
theorem u8_eq {a b:UInt8}:((a.toNat:Int)=(b.toNat:Int))↔a=b:=by
 constructor
 · intro h;exact UInt8.toNat_inj.1 (by omega)
 · rintro rfl;rfl
def rvb (c:UInt8):RV:=.int .u8 c.toNat
def tx (t:Tx):RV:=.str (bs t)
def num (n:Int):RV:=.int .i64 n
theorem Pc (l:Tx):pc (l.map rvb)=bs l:=by
 unfold pc bs
 congr 1
 congr 1
 rw [List.map_map]
 have:(RV.byte ∘ rvb)=id:=by
  funext c
  simp [rvb,RV.byte]
 rw [this];simp
theorem Fz {x:Int} (h1:0≤x) (h2:x < 256):IntKind.u8.wrap x=x:=by
 unfold IntKind.wrap
 simp [IntKind.bits,IntKind.signed]
 omega
def oq (u:LUrl):RV:=.agg [tx u.scheme,tx u.user,tx u.host,num u.port,tx u.path,tx u.query,tx u.frag,.bool u.hasQ,.bool u.hasF]
end Go.PW
end
section
namespace Go.PW
open Go.RowKit Go.KP
variable [GF]
theorem Gu (φ:Nat→Option RV) (rs:List RV):PV.plL (PV.frzL φ (rs.map .val))=rs.map .val:=by
 induction rs with
 | nil=>rfl
 | cons r rs ih=>simp [PV.frzL,PV.plL,PV.frz,PV.pl,ih]
theorem R6 {st:St} {s n t id:Nat} {rs:List RV} {r:RV} (h1:st.env s=.ptr id 0) (h2:st.mem id=.box (rs.map .val)) (h3:rs.length=n) (h4:0 < n) (h5:st.env t=.val r) :
 nl [.c s true n,.t t] st.fin=some (.tup [kh (rs.map .val),.val r]):=by
 have e1:st.fin.env s=.ptr id 0:=by rw [kf,h1];simp [PV.frz,rf,h2,PV.pl]
 have e2:st.fin.mem id=.box (rs.map .val):=by
  simp only [St.fin,St.freeze,h2,MObj.pl,Gu]
 have e3:st.fin.env t=.val r:=by rw [kf,h5];rfl
 simp only [nl,zg,wa,e1,e2,e3]
 simp only [List.length_map,h3,Nat.zero_add,List.drop_zero,if_true]
 rw [if_pos ⟨by omega,h4⟩,List.take_of_length_le (by simp [h3])]
 rfl
theorem Kg {st:St} {s n id:Nat} {rs:List RV} (h1:st.env s=.ptr id 0) (h2:st.mem id=.box (rs.map .val)) (h3:rs.length=n) (h4:0 < n) :
 nl [.c s true n] st.fin=some (kh (rs.map .val)):=by
 have e1:st.fin.env s=.ptr id 0:=by rw [kf,h1];simp [PV.frz,rf,h2,PV.pl]
 have e2:st.fin.mem id=.box (rs.map .val):=by
  simp only [St.fin,St.freeze,h2,MObj.pl,Gu]
 simp only [nl,wa,e1,e2]
 simp only [List.length_map,h3,Nat.zero_add,List.drop_zero,if_true]
 rw [if_pos ⟨by omega,h4⟩,List.take_of_length_le (by simp [h3])]
def El (u:LUrl):List RV:=[tx u.scheme,tx u.user,tx u.host,num u.port,tx u.path,tx u.query,tx u.frag,.bool u.hasQ,.bool u.hasF]
def ai (u:LUrl):List PV:=[.val (tx u.scheme),.val (tx u.user),.val (tx u.host),.val (num u.port),.val (tx u.path),.val (tx u.query),.val (tx u.frag),.val (.bool u.hasQ),.val (.bool u.hasF)]
theorem Em (u:LUrl):ai u=(El u).map .val:=rfl
def xz (r:LUrl×Bool):PV:=.tup [.val (oq r.1),.val (.bool r.2)]
theorem Jp (u:LUrl):kh ((El u).map .val)=.val (oq u):=by simp [El,kh,ao,oq]
theorem zh {st:St} {s t id:Nat} {u:LUrl} {b:Bool} (h1:st.env s=.ptr id 0) (h2:st.mem id=.box (ai u)) (h5:st.env t=.val (.bool b)):nl [.c s true 9,.t t] st.fin=some (xz (u,b)):=by
 rw [R6 (n:=9) (rs:=El u) h1 (by rw [h2,Em]) rfl (by omega) h5,Jp]
 rfl
def al (x:LTarget):RV:=.agg [tx x.url,num x.prio,num x.weight]
def ig (x:LPeer):RV:=.agg [tx x.target.url,num x.target.prio,num x.target.weight,num x.fails,num x.retry,.bool x.gone]
def lx (l:List LPeer):RV:=.list 6 (l.map ig)
theorem Ai {P:Program} {st:St} {Ke:Kx (PV→St→Prop)} {kx:Kx (RV→St→Prop)} {d f ps as p} (ha:vj st.mem ps=some as) (hb:boxIds ps=[]) (hs:∀ b,p.shift b=p) (ho:p.ownLt 0=true) (hr:ps.all PV.noOwn=true∨p.flat=true) (h:ag P f as (.ret p []) []) (hK:Ke.k p st):KC P st d f ps (Ke:=Ke) (kx:=kx):=by
 refine wu (K:=fun q st'=>q=p∧st'=st) (kx:=fun _ _=>False) (fun p s hh=>by obtain ⟨rfl,rfl⟩:=hh;exact hK) (fun _ _ hh=>hh.elim) (xj ?_)
 unfold vq
 rw [ha]
 exact ⟨hb,p,h,hs,ho,hr,rfl⟩
theorem o5 {P:Program} {st:St} {Ke:Kx (PV→St→Prop)} {kx:Kx (RV→St→Prop)} {d f ps as a b} (ha:vj st.mem ps=some as) (hb:boxIds ps=[]) (hr:ps.all PV.noOwn=true∨(PV.tup [.val a,.val b]).flat=true) (h:ag P f as (.ret (.tup [.val a,.val b]) []) []) (hK:Ke.k (.tup [.val a,.val b]) st):KC P st d f ps (Ke:=Ke) (kx:=kx):=
 Ai ha hb (fun _=>rfl) rfl hr h hK
theorem ry {P:Program} {st:St} {Ke:Kx (PV→St→Prop)} {kx:Kx (RV→St→Prop)} {d f ps as a b c} (ha:vj st.mem ps=some as) (hb:boxIds ps=[]) (hr:ps.all PV.noOwn=true∨(PV.tup [.val a,.val b,.val c]).flat=true) (h:ag P f as (.ret (.tup [.val a,.val b,.val c]) []) []) (hK:Ke.k (.tup [.val a,.val b,.val c]) st):KC P st d f ps (Ke:=Ke) (kx:=kx):=
 Ai ha hb (fun _=>rfl) rfl hr h hK
end Go.PW
end
section
namespace Go.PW
open Go.RowKit Go.KP
variable [GF]
def RV.sv:RV→Option Value
 | .str s=>some (.string s)
 | .int k n=>some (.int k n)
 | .bool b=>some (.bool b)
 | _=>none
def svs:List RV→Option (List Value)
 | []=>some []
 | r :: rs=>match r.sv,svs rs with
  | some v,some vs=>some (v :: vs)
  | _,_=>none
theorem sv_rep {L:Nat→Prop} {w:World} {r:RV} {v u:Value} (h:r.sv=some v) (hr:RepR L w r u):u=v:=by
 cases hr with
 | bool b=>simpa [RV.sv] using h
 | int k n=>simpa [RV.sv] using h
 | str s=>simpa [RV.sv] using h
 | _=>simp [RV.sv] at h
theorem R1 {L:Nat→Prop} {w:World} {r:RV} {v:Value} (h:r.sv=some v):RepR L w r v:=by
 cases r with
 | bool b=>simp [RV.sv] at h;subst h;exact .bool b
 | int k n=>simp [RV.sv] at h;subst h;exact .int k n
 | str s=>simp [RV.sv] at h;subst h;exact .str s
 | _=>simp [RV.sv] at h
theorem L4 {L:Nat→Prop} {w:World}:∀ {rs:List RV} {vals vs:List Value} {ms:List Nat},svs rs=some vals→ArgsRep L w (rs.map .val) vs ms→vs=vals∧ms=[]
 | [],vals,vs,ms,h,hr=>by
  simp [svs] at h;subst h
  cases hr;exact ⟨rfl,rfl⟩
 | r :: rs,vals,vs,ms,h,hr=>by
  rw [List.map_cons] at hr
  cases hr with
  | cons _ _ v vs' ms1 ms2 h1 h2=>
   cases h1 with
   | val _ _ h1=>
    simp only [svs] at h
    split at h
    · rename_i v' vs'' e1 e2
      obtain ⟨rfl,rfl⟩:=L4 e2 h2
      have:=sv_rep e1 h1
      subst this
      have:=Option.some.inj h
      exact ⟨this,rfl⟩
    · cases h
theorem Ew {F:Ctx} {γ:Nat→Value} {w:World}:MemInv F γ (ep []) w:=
 ⟨fun id cs h=>by simp [ep] at h,fun id E sz xs h=>by simp [ep] at h,fun id E sz n c h=>by simp [ep] at h,fun id s clk m h=>by simp [ep] at h,fun id id' b h=>by simp [ep,MObj.live] at h⟩
theorem J1 {P:Program} {f:Nat} {rs:List RV} {vals:List Value} {p:PV} {v:Value} (ha:svs rs=some vals) (hp:∀ γ L w,RepP γ L w p v)
 (h:∀ L w,Globs L w→Jg L w→Calls P f vals.toArray w fun e w'=>e=.returned v∧Below w.heap.size w w'):ag P f (rs.map .val) (.ret p []) []:=by
 intro L w vs ms hL hgl hgb hargs hnd
 obtain ⟨rfl,rfl⟩:=L4 ha hargs
 refine (h L w hgl hgb).mono fun e w' ⟨he,hb⟩=>?_
 exact ⟨Outside.of_below hb,v,fun _=>undef,he,hp _ _ _,Ew,rfl,fun i b cells h1 h2=>by simp at h1⟩
theorem tq {P:Program} {f:Nat} {rs:List RV} {vals:List Value} {r:RV} {v:Value} (ha:svs rs=some vals) (hv:r.sv=some v)
 (h:∀ L w,Globs L w→Jg L w→Calls P f vals.toArray w fun e w'=>e=.returned v∧Below w.heap.size w w'):ag P f (rs.map .val) (.ret (.val r) []) []:=
 J1 ha (fun γ L w=>.val _ _ (R1 hv)) h
theorem Gh:∀ {rs:List RV} {vals:List Value},svs rs=some vals→vals.length=rs.length
 | [],vals,h=>by simp [svs] at h;subst h;rfl
 | r :: rs,vals,h=>by
  simp only [svs] at h
  split at h
  · rename_i v vs e1 e2
    have:=Gh e2
    have h:=Option.some.inj h
    subst h;simp [this]
  · cases h
theorem Md {L:Nat→Prop} {w:World}:∀ {rs:List RV} {vals:List Value},svs rs=some vals→∀ i,i < rs.length→RepR L w (rs.getD i .nilptr) (vals.getD i undef)
 | [],vals,h,i,hi=>by simp at hi
 | r :: rs,vals,h,i,hi=>by
  simp only [svs] at h
  split at h
  · rename_i v vs e1 e2
    have h:=Option.some.inj h
    subst h
    cases i with
    | zero=>simpa using R1 e1
    | succ i=>simpa using Md e2 i (by simpa using hi)
  · cases h
theorem H6 {P:Program} {f:Nat} {rs:List RV} {vals:List Value} {qs:List RV} {us:List Value} (ha:svs rs=some vals) (hv:svs qs=some us)
 (h:∀ L w,Globs L w→Jg L w→Calls P f vals.toArray w fun e w'=>e=.returned (.tuple us.toArray)∧Below w.heap.size w w'):ag P f (rs.map .val) (.ret (.tup (qs.map .val)) []) []:=
 J1 ha (fun γ L w=>.tup _ _ (by simp [Gh hv]) fun i hi=>by
  have hi':i < qs.length:=by simpa using hi
  have e1:(qs.map PV.val).getD i .undef=.val (qs.getD i .nilptr):=by simp [List.getD_eq_getElem?_getD,List.getElem?_eq_getElem hi']
  have e2:us.toArray.getD i undef=us.getD i undef:=by simp [List.getD_eq_getElem?_getD,Array.getD_eq_getD_getElem?]
  rw [e1,e2]
  exact .val _ _ (Md hv i hi')) h
theorem wy {w w':World} (h:w'=w):Below w.heap.size w w':=by subst h;exact Below.refl _ _
end Go.PW
end
section
namespace Go.PW
open Go.RowKit Go.KP
variable [GF]
def tw (M:Nat→MObj):List Nat→List (List RV)→Prop
 | [],[]=>True
 | id :: ids,b :: bs=>M id=.box (b.map .val)∧tw M ids bs
 | _,_=>False
def mh (M:Nat→MObj):Nat→List (List RV)→Prop
 | _,[]=>True
 | k,b :: bs=>M (900+k)=.box (b.map .val)∧mh M (k+1) bs
theorem Bd:∀ {M:Nat→MObj} {ids:List Nat} {B:List (List RV)},tw M ids B→n6 M ids B=M
 | M,[],[],_=>rfl
 | M,id :: ids,b :: bs,h=>by
  have e:upd id (.box (b.map .val)) M=M:=by
   funext x
   by_cases hx:x=id
   · subst hx;rw [mf,h.1]
   · rw [me _ _ _ _ hx]
  simp only [n6]
  rw [e]
  exact Bd h.2
 | M,[],_ :: _,h=>h.elim
 | M,_ :: _,[],h=>h.elim
theorem Jj:∀ {M:Nat→MObj} {ids:List Nat} {B:List (List RV)},tw M ids B→B.length=ids.length
 | M,[],[],_=>rfl
 | M,id :: ids,b :: bs,h=>by simp [Jj h.2]
 | M,[],_ :: _,h=>h.elim
 | M,_ :: _,[],h=>h.elim
theorem Vo (b:List RV):im (b.map .val)=some b:=by
 induction b with
 | nil=>rfl
 | cons r b ih=>simp [im,ih]
theorem Di {st:St}:∀ {k:Nat} {B:List (List RV)},mh st.mem k B→ya st.fin k B
 | k,[],_=>trivial
 | k,b :: B,h=>by
  have e2:st.fin.mem (900+k)=.box (b.map .val):=by
   simp only [St.fin,St.freeze,h.1,MObj.pl,Gu]
  exact ⟨by rw [e2];exact Vo b,Di h.2⟩
def RetB (res:List Rs) (p:PV) (B:List (List RV)):PExit→St→Prop
 | .normal,st=>nl res st.fin=some p∧mh st.mem 0 B
 | .ret,st=>nl res st.fin=some p∧mh st.mem 0 B
 | _,_=>False
@[simp] theorem mw {res p B} {st:St}:RetB res p B .ret st=(nl res st.fin=some p∧mh st.mem 0 B):=by rfl
@[simp] theorem RetB_normal {res p B} {st:St}:RetB res p B .normal st=(nl res st.fin=some p∧mh st.mem 0 B):=by rfl
theorem nz {P:Program} {f:Nat} {c:PC} {res:List Rs} {as:List AV} {p:PV} {B:List (List RV)} (hm:P.follows .mixedOrders=true) (hc:ap P f c as.length res=true) (hb:ac as=B) (hp:∀ ι,p.ren ι=p)
 (h:qd P c (ah as) (RetB res p B)):ag P f as (.ret p []) B:=by
 refine F7 hm hc (n8 (fun e s hh=>?_) h)
 have key:nl res s.fin=some p∧mh s.mem 0 B→∃ st',Le s st'∧L6 res (ac as).length (.ret p []) B .ret st':=fun hh=>
  ⟨s.fin,(Le.freeze s _).trans (Le.plain _),(by rw [hb]),⟨⟨id,by rw [hp];exact hh.1,fun i j hi=>by simp at hi,fun i r hr=>by simp at hr⟩,Di hh.2⟩⟩
 cases e with
 | normal=>exact key hh
 | ret=>exact key hh
 | exit id=>exact hh.elim
 | pan r=>exact hh.elim
theorem La (st:St):st.kill (fun _=>false)=st:=by
 cases st with
 | mk env mem=>
  simp only [St.kill,PV.kill_none]
  congr 1
  funext x
  cases mem x with
  | dead=>rfl
  | row E sz xs=>rfl
  | box cs=>simp [MObj.kill,PV.killL_none]
  | prow E sz n c=>simp [MObj.kill,PV.kill_none]
  | map s clk m => 
   have:(fun k=>(m k).map fun p=>(p.1.kill fun _=>false,p.2))=m:=by funext k;cases m k<;>simp [PV.kill_none]
   simp only [MObj.kill,this];rfl
theorem ne {P:Program} {st:St} {Ke:Kx (PV→St→Prop)} {kx:Kx (RV→St→Prop)} {d f ps as r ids B} (ha:vj st.mem ps=some as) (hb:boxIds ps=ids) (hn:ids.Nodup) (hlt:ids.all (· < bj d)=true) (hB:tw st.mem ids B) (hr:ps.all PV.noOwn=true)
 (h:ag P f as (.ret (.val r) []) B) (hK:Ke.k (.val r) st):KC P st d f ps (Ke:=Ke) (kx:=kx):=by
 unfold KC
 refine .inl ?_
 unfold Ch
 rw [ha]
 refine ⟨by rw [hb];exact hn,by rw [hb];exact hlt,.ret (.val r) [],B,h,by rw [hb];exact Jj hB,rfl,.inl hr,?_⟩
 have e:(fun i=>decide (bj d≤i) && decide (i < bj d+([]:List Row).length))=fun _=>false:=by
  funext i
  simp only [List.length_nil,Nat.add_zero,Bool.and_eq_false_imp,decide_eq_true_eq,decide_eq_false_iff_not]
  omega
 rw [e,La]
 simp only [nk,hb]
 rw [Bd hB]
 exact hK
end Go.PW
end
section
namespace Go.PW
open Go.RowKit Go.KP
def t7 {α:Type} (r:α→RV) (z:RV) (l:List α) (i:Nat):List RV:=(l.take i).map r++List.replicate (l.length - i) z
theorem v6 {α:Type} (r:α→RV) (z:RV) (l:List α):t7 r z l 0=List.replicate l.length z:=by simp [t7]
theorem xx {α:Type} (r:α→RV) (z:RV) (l:List α):t7 r z l l.length=l.map r:=by simp [t7]
theorem xw {α:Type} (r:α→RV) (z:RV) (l:List α) (i:Nat) (h:i≤l.length):(t7 r z l i).length=l.length:=by simp [t7];omega
theorem xv {α:Type} (r:α→RV) (z:RV) (l:List α) (i:Nat) (h:i < l.length):(t7 r z l i).set i (r l[i])=t7 r z l (i+1):=by
 unfold t7
 have h1:l.length - i=(l.length - (i+1))+1:=by omega
 have h2:((l.take i).map r).length=i:=by simp;omega
 rw [h1,List.replicate_succ,List.set_append_right _ _ (by omega),h2,Nat.sub_self,List.set_cons_zero]
 rw [List.take_add_one,List.getElem?_eq_getElem h,List.map_append,List.append_assoc]
 rfl
theorem An {α:Type} (r:α→RV) (z:RV) (l:List α) (i:Nat) (h:i < l.length):(t7 r z l i)[i]?.getD .nilptr=z:=by
 unfold t7
 have h1:l.length - i=(l.length - (i+1))+1:=by omega
 have h2:((l.take i).map r).length=i:=by simp;omega
 rw [h1,List.replicate_succ,List.getElem?_append_right (by omega),h2]
 simp
def o7 (o:Option Tx):PV:=.tup [.val (tx (o.getD [])),.val (.bool o.isSome)]
theorem Kf [GF] {st:St} {s n id:Nat} {cs:List PV} {rs:List RV} (h1:st.env s=.ptr id 0) (h2:st.mem id=.box cs) (hz:PV.plL (PV.frzL (rf st fun _=>true) cs)=rs.map .val) (h3:rs.length=n) (h4:0 < n) :
 nl [.c s true n] st.fin=some (kh (rs.map .val)):=by
 have e1:st.fin.env s=.ptr id 0:=by rw [kf,h1];simp [PV.frz,rf,h2,PV.pl]
 have e2:st.fin.mem id=.box (rs.map .val):=by
  simp only [St.fin,St.freeze,h2,MObj.pl]
  rw [hz]
 simp only [nl,wa,e1,e2]
 simp only [List.length_map,h3,Nat.zero_add,List.drop_zero,if_true]
 rw [if_pos ⟨by omega,h4⟩,List.take_of_length_le (by simp [h3])]
def Sc {α:Type} (sz id:Nat):List α→PV
 | []=>.emp sz
 | _ :: _=>.own id
def Vy {α:Type} (E sz:Nat) (r:α→RV):List α→MObj
 | []=>.dead
 | x :: xs=>.row E sz ((x :: xs).map r)
@[simp] theorem Th {α:Type} (sz id:Nat):Sc sz id ([]:List α)=.emp sz:=rfl
@[simp] theorem ownOr_cons {α:Type} (sz id:Nat) (x:α) (xs:List α):Sc sz id (x :: xs)=.own id:=rfl
@[simp] theorem rowOr_nil {α:Type} (E sz:Nat) (r:α→RV):Vy E sz r []=.dead:=rfl
@[simp] theorem rowOr_cons {α:Type} (E sz:Nat) (r:α→RV) (x:α) (xs:List α):Vy E sz r (x :: xs)=.row E sz (r x :: xs.map r):=rfl
theorem Le.mkD [GF] {st:St} (le:List (Nat×PV)) (lm:List (Nat×MObj)) (h1:∀ kp∈le,st.env kp.1=kp.2) (h2:∀ kp∈lm,kp.2=.dead∨st.mem kp.1=kp.2):Le st ⟨co le,cu lm⟩:=by
 refine Le.drop (fun i=>?_) (fun x=>?_)
 · show cu lm i=st.mem i∨cu lm i=.dead
   induction lm with
   | nil=>exact .inr rfl
   | cons kp lm ih=>
    obtain ⟨k,o⟩:=kp
    simp only [cu]
    split
    · rename_i e;subst e
      rcases h2 (i,o) (by simp) with h | h
      · exact .inr h
      · exact .inl h.symm
    · exact ih fun kp hkp=>h2 kp (by simp [hkp])
 · show Wk (st.env x) (co le x)
   induction le with
   | nil=>exact .undef _
   | cons kp le ih=>
    obtain ⟨k,p⟩:=kp
    simp only [co]
    split
    · rename_i e;subst e;rw [h1 (x,p) (by simp)];exact .refl p
    · exact ih fun kp hkp=>h1 kp (by simp [hkp])
@[simp] theorem rvTarget_len (x:LTarget):(al x).cells.length=3:=rfl
@[simp] theorem rvPeer_len (x:LPeer):(ig x).cells.length=6:=rfl
def ki (x:LGroup):RV:=.agg [tx x.name,num x.age,.list 3 (x.targets.map al)]
@[simp] theorem rvGroup_len (x:LGroup):(ki x).cells.length=3:=rfl
def bk (x:LRule):RV:=.agg [tx x.name,.list 1 (x.words.map tx)]
@[simp] theorem rvRule_len (x:LRule):(bk x).cells.length=2:=rfl
def dn (x:LPolicy):RV:=.agg [tx x.reportTo,.list 1 (x.uris.map tx),.list 2 (x.rules.map bk)]
@[simp] theorem rvPolicy_len (x:LPolicy):(dn x).cells.length=3:=rfl
def Mo (x:LViolation):RV:=.agg [tx x.document,tx x.referrer,tx x.blocked,tx x.source,tx x.directive,tx x.sample,num x.line,num x.column,.bool x.redirected]
@[simp] theorem Vg (x:LViolation):(Mo x).cells.length=9:=rfl
def aq (x:LReport):RV:=.agg [num x.id,num x.born,num x.tries,tx x.body]
@[simp] theorem rvReport_len (x:LReport):(aq x).cells.length=4:=rfl
def j8 (x:LQueue):RV:=.agg [.list 4 (x.items.map aq),.list 1 (x.recent.map tx)]
@[simp] theorem rvQueue_len (x:LQueue):(j8 x).cells.length=2:=rfl
def aw (x:LChannel):RV:=.agg [tx x.group.name,num x.group.age,.list 3 (x.group.targets.map al),.list 6 (x.peers.map ig),.list 4 (x.queue.items.map aq),.list 1 (x.queue.recent.map tx)]
@[simp] theorem rvChannel_len (x:LChannel):(aw x).cells.length=6:=rfl
def eo (x:LEntry):RV:=.agg [num x.kind,num x.id,num x.at_]
@[simp] theorem rvEntry_len (x:LEntry):(eo x).cells.length=3:=rfl
def ja (x:LWire):RV:=.agg [num x.at_,num x.status,tx x.group,tx x.url,.list 1 (x.ids.map num),tx x.body,.bool x.lost]
@[simp] theorem rvWire_len (x:LWire):(ja x).cells.length=7:=rfl
def ik (x:LPipe):RV:=.agg [.list 6 (x.channels.map aw),tx x.policy.reportTo,.list 1 (x.policy.uris.map tx),.list 2 (x.policy.rules.map bk),num x.now,num x.next,.list 3 (x.log.map eo),.list 7 (x.wires.map ja)]
@[simp] theorem rvPipe_len (x:LPipe):(ik x).cells.length=8:=rfl
def rvEvent (x:LEvent):RV:=.agg [num x.kind,num x.draw,num x.status,num x.ticks,tx x.text,tx x.name,tx x.violation.document,tx x.violation.referrer,tx x.violation.blocked,tx x.violation.source,tx x.violation.directive,tx x.violation.sample,num x.violation.line,num x.violation.column,.bool x.violation.redirected,.bool x.lost]
@[simp] theorem rvEvent_len (x:LEvent):(rvEvent x).cells.length=16:=rfl
def Vx (x:LParcel):RV:=.agg [num x.id,num x.age,tx x.body]
@[simp] theorem rvParcel_len (x:LParcel):(Vx x).cells.length=3:=rfl
def rvBox (x:LBox):RV:=.agg [.list 1 (x.ids.map num),.list 1 (x.times.map num),.list 1 (x.bodies.map tx)]
@[simp] theorem rvBox_len (x:LBox):(rvBox x).cells.length=3:=rfl
end Go.PW
end
section
namespace Go.KP
end Go.KP
end
section
namespace Go.KP
def qy (k:Nat):LReport:=⟨(k:Nat),(k+1:Nat),(k+2:Nat),lmk (k+3)⟩
def ub (k:Nat):LEntry:=⟨(k:Nat),(k+1:Nat),(k+2:Nat)⟩
def ua (k:Nat):Int:=(k:Nat)
def nd (c:LChannel):Nat:=2+3*c.group.targets.length+6*c.peers.length+4*c.queue.items.length+c.queue.recent.length
def o9 (r:LRule):Nat:=1+r.words.length
def qh (w:LWire):Nat:=6+w.ids.length
theorem Dl {α:Type} (z:α→Nat) (l:List α):l.length≤zS z l:=Nat.le_add_right _ _
theorem Jb (c:LChannel):nd c≤2+6*kc c:=by
 have h1:=Dl mu c.group.targets
 have h2:=Dl pf c.peers
 have h3:=Dl mj c.queue.items
 have h4:=Dl List.length c.queue.recent
 unfold nd kc uv Bp
 omega
theorem Ro (r:LRule):o9 r≤1+6*pq r:=by
 have h1:=Dl List.length r.words
 unfold o9 pq
 omega
theorem Rn (w:LWire):qh w≤6+6*pp w:=by
 unfold qh pp
 omega
theorem G7 {α:Type} (c z:α→Nat) (h:∀ x,c x≤6+6*z x) (l:List α):io c l≤6*zS z l:=by
 have:io c l≤6*(l.length+io z l):=by
  induction l with
  | nil=>simp [io]
  | cons x l ih=>simp only [io,List.map_cons,List.sum_cons,List.length_cons] at *;have:=h x;omega
 exact this
def yr (p:LPipe):Nat:=io nd p.channels+p.policy.uris.length+io o9 p.policy.rules+3*p.log.length+io qh p.wires
theorem Rp (p:LPipe):yr p≤6*Ga p:=by
 have h1:=G7 nd kc (fun x=>by have:=Jb x;omega) p.channels
 have h2:=G7 o9 pq (fun x=>by have:=Ro x;omega) p.policy.rules
 have h3:=G7 qh pp (fun x=>by have:=Rn x;omega) p.wires
 have h4:=Dl List.length p.policy.uris
 unfold yr Ga sa
 omega
end Go.KP
end
