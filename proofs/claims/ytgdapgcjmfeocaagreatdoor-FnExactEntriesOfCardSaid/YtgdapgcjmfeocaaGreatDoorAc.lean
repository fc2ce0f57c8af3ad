/- Ac: merged out of KPa, KPb, KPc, KPd, KPe, KPf, KPg, KPh, KPi, KPj, KPk, KPl, KPm, KPn, KQa, KRa, KLa, KRb, KRc, KPu. -/
import Derived.Test.YtgdapgcjmfeocaaGreatDoorPWv
set_option linter.unusedSectionVars false
set_option linter.unusedSimpArgs false
set_option linter.unusedVariables false
section
namespace Go.KP
abbrev Tx:=List UInt8
def isLow (c:UInt8):Bool:=decide (97≤c.toNat∧c.toNat≤122)
def isDig (c:UInt8):Bool:=decide (48≤c.toNat∧c.toNat≤57)
def low1 (c:UInt8):UInt8:=if 65≤c.toNat∧c.toNat≤90 then c+32 else c
def llow (t:Tx):Tx:=t.map low1
def lfind (t:Tx) (c:UInt8):Nat:=t.findIdx (· == c)
def lonly (t wo:Tx):Bool:=t.all fun c=>decide (33≤c.toNat∧c.toNat≤126) && !decide (c∈wo)
def sHttp:Tx:=[104,116,116,112]
def sHttps:Tx:=[104,116,116,112,115]
def lweb (s:Tx):Bool:=s == sHttp || s == sHttps
def schByte (c:UInt8):Bool:=isLow c || isDig c || decide (c.toNat=45∨c.toNat=43∨c.toNat=46)
def schAll (t:Tx):Bool:=(t.take 1).all isLow && t.all schByte
def lscheme (t:Tx):Bool:=decide (1≤t.length∧t.length≤12) && schAll t
def lhostFrom:Bool→Tx→Bool
 | last,[]=>!last
 | last,c :: r=>if !(isLow c || isDig c) && (last || !decide (c.toNat=45∨c.toNat=46)) then false else lhostFrom (!(isLow c || isDig c)) r
def lhost (t:Tx):Bool:=lhostFrom true t
def lusual (s:Tx):Int:=if s=sHttp then 80 else 443
def ldig (n:Nat):Tx:=if h:n < 10 then [UInt8.ofNat (48+n)] else ldig (n / 10)++[UInt8.ofNat (48+n % 10)]
termination_by n
decreasing_by omega
theorem lfind_eq (t:Tx) (c:UInt8) (i:Nat) (hi:i≤t.length) (h:∀ k,k < i→t.getD k 0≠c) (h':i=t.length∨t.getD i 0=c):lfind t c=i:=by
 unfold lfind
 by_cases hl:i < t.length
 · rw [List.findIdx_eq hl]
   refine ⟨?_,fun j hj=>?_⟩
   · rcases h' with h' | h'
     · omega
     · simpa [List.getD_eq_getElem?_getD,List.getElem?_eq_getElem hl] using h'
   · have:=h j hj
     have hjl:j < t.length:=by omega
     simpa [List.getD_eq_getElem?_getD,List.getElem?_eq_getElem hjl] using this
 · have e:i=t.length:=by omega
   subst e
   rw [List.findIdx_eq_length]
   intro x hx
   obtain ⟨j,hj,rfl⟩:=List.getElem_of_mem hx
   have:=h j hj
   simpa [List.getD_eq_getElem?_getD,List.getElem?_eq_getElem hj] using this
theorem lfind_le (t:Tx) (c:UInt8):lfind t c≤t.length:=List.findIdx_le_length
theorem lfind_lt {t:Tx} {c:UInt8}:lfind t c < t.length↔c∈t:=by
 unfold lfind
 rw [List.findIdx_lt_length]
 constructor
 · rintro ⟨x,hx,h⟩;have:x=c:=by simpa using h
   exact this ▸ hx
 · intro h;exact ⟨c,h,by simp⟩
theorem getD_lt {α:Type} (t:List α) (i:Nat) (d:α) (h:i < t.length):t.getD i d=t[i]:=by simp [List.getD_eq_getElem?_getD,List.getElem?_eq_getElem h]
theorem take_succ {α:Type} (t:List α) (i:Nat) (d:α) (h:i < t.length):t.take (i+1)=t.take i++[t.getD i d]:=by
 rw [List.take_add_one,List.getElem?_eq_getElem h,getD_lt t i d h];rfl
theorem ldig_lt {n:Nat} (h:n < 10):ldig n=[UInt8.ofNat (48+n)]:=by rw [ldig];simp [h]
theorem ldig_ge {n:Nat} (h:¬ n < 10):ldig n=ldig (n / 10)++[UInt8.ofNat (48+n % 10)]:=by rw [ldig];simp [h]
theorem ldig_len (n:Nat):(ldig n).length≤n+1:=by
 induction n using Nat.strongRecOn with
 | ind n ih=>
  by_cases h:n < 10
  · rw [ldig_lt h];simp
  · rw [ldig_ge h]
    have:=ih (n / 10) (by omega)
    simp;omega
theorem ldig_len10:∀ (k n:Nat),n < 10 ^ (k+1)→(ldig n).length≤k+1
 | 0,n,h=>by rw [ldig_lt (by simpa using h)];simp
 | k+1,n,h=>by
  by_cases hn:n < 10
  · rw [ldig_lt hn];simp
  · rw [ldig_ge hn]
    have:=ldig_len10 k (n / 10) (by rw [Nat.div_lt_iff_lt_mul (by omega)];rw [Nat.pow_succ] at h;exact h)
    simp;omega
def ldec (n:Int):Tx:=if n < 0 then 45 :: ldig (-n).toNat else ldig n.toNat
def lval (t:Tx):Nat:=t.foldl (fun n c=>n*10+(c.toNat - 48)) 0
def numBad (neg:Bool) (t:Tx):Bool:=decide (t.length=0∨18 < t.length) || (decide ((t.getD 0 0).toNat=48) && (decide (1 < t.length) || neg))
def lnumU (neg:Bool) (t:Tx):Option Int:=if numBad neg t then none else if t.all isDig then some (if neg then - (lval t:Int) else (lval t:Int)) else none
def lnumber (t:Tx):Option Int:=match t with
 | []=>none
 | c :: r=>if c=45 then lnumU true r else lnumU false (c :: r)
theorem lval_snoc (t:Tx) (c:UInt8):lval (t++[c])=lval t*10+(c.toNat - 48):=by simp [lval]
theorem lval_lt (t:Tx) (h:t.all isDig=true):lval t < 10 ^ t.length:=by
 have key:∀ (k:Nat) (t:Tx),t.length=k→t.all isDig=true→lval t < 10 ^ t.length:=by
  intro k
  induction k with
  | zero=>intro t ht _;have:t=[]:=List.eq_nil_of_length_eq_zero ht;subst this;decide
  | succ k ih=>
   intro t ht ha
   obtain ⟨r,c,rfl⟩:∃ r c,t=r++[c]:=⟨t.dropLast,t.getLast (by intro e;subst e;simp at ht),(List.dropLast_concat_getLast _).symm⟩
   simp only [List.all_append,Bool.and_eq_true] at ha
   have h1:=ih r (by simpa using ht) ha.1
   have h2:isDig c=true:=by simpa using ha.2
   simp [isDig] at h2
   rw [lval_snoc]
   simp only [List.length_append,List.length_singleton,Nat.pow_succ]
   omega
 exact key t.length t rfl h
theorem all_take_succ {α:Type} (t:List α) (p:α→Bool) (i:Nat) (h:i < t.length):(t.take (i+1)).all p=((t.take i).all p && p t[i]):=by
 rw [List.take_add_one,List.getElem?_eq_getElem h,List.all_append];simp
theorem schAll_succ (t:Tx) (i:Nat) (h:i < t.length):schAll (t.take (i+1))=(schAll (t.take i) && (if i=0 then isLow t[i] else schByte t[i])):=by
 unfold schAll
 rw [all_take_succ t _ i h]
 by_cases hi:i=0
 · subst hi
   have:(t.take (0+1)).take 1=[t[0]]:=by
    cases t with
    | nil=>simp at h
    | cons c r=>simp
   rw [this]
   simp [schByte]
   cases isLow t[0]<;>simp
 · have e1:(t.take (i+1)).take 1=t.take 1:=by rw [List.take_take,Nat.min_eq_left (by omega)]
   have e2:(t.take i).take 1=t.take 1:=by rw [List.take_take,Nat.min_eq_left (by omega)]
   rw [e1,e2]
   simp [hi,Bool.and_assoc]
theorem schAll_false (t:Tx) (i:Nat) (h:i < t.length) (hb:(if i=0 then isLow t[i] else schByte t[i])=false):schAll t=false:=by
 unfold schAll
 by_cases hi:i=0
 · subst hi
   rw [if_pos rfl] at hb
   cases t with
   | nil=>simp at h
   | cons c r=>simp at hb;simp [hb]
 · rw [if_neg hi] at hb
   have:t.all schByte=false:=by rw [List.all_eq_false];exact ⟨t[i],List.getElem_mem h,by simp [hb]⟩
   simp [this]
structure LUrl where
 scheme:Tx
 user:Tx
 host:Tx
 port:Int
 path:Tx
 query:Tx
 frag:Tx
 hasQ:Bool
 hasF:Bool
def LUrl.Small (u:LUrl):Prop:=u.scheme.length < 1099511627776∧u.user.length < 1099511627776∧u.host.length < 1099511627776∧u.path.length < 1099511627776∧u.query.length < 1099511627776∧u.frag.length < 1099511627776∧u.port≤9223372036854775807
def portTx (p:Int):Tx:=if 0 < p then 58 :: ldig p.toNat else []
theorem portTx_len (p:Int) (h:p≤9223372036854775807):(portTx p).length≤20:=by
 unfold portTx
 split
 · have:=ldig_len10 18 p.toNat (by omega)
   simp;omega
 · simp
def lsite (u:LUrl):Tx:=u.scheme++[58,47,47]++u.host++portTx u.port
def ltext (u:LUrl):Tx:=
 if lweb u.scheme then
  u.scheme++[58,47,47]++(if u.user=[] then [] else u.user++[64])++(u.host++portTx u.port++u.path)++(if u.hasQ then 63 :: u.query else [])++(if u.hasF then 35 :: u.frag else [])
 else u.scheme++[58]++u.path
def lurlOK (u:LUrl):Bool:=
 lscheme u.scheme && (u.hasQ || decide (u.query=[])) && (u.hasF || decide (u.frag=[])) && lonly u.path [63,35] && lonly u.query [35] && lonly u.frag [] && decide ((ltext u).length≤100) &&
 (if lweb u.scheme then lonly u.user [47,63,35,64] && lhost u.host && decide (0≤u.port∧u.port≤65535) && decide (u.port≠lusual u.scheme) && decide (0 < u.path.length) && decide ((u.path.getD 0 0).toNat=47)
  else decide (u.user=[]) && decide (u.host=[]) && decide (u.port=0) && !u.hasQ && !u.hasF)
end Go.KP
end
section
namespace Go.KP
def lcutA (t:Tx) (c:UInt8):Tx:=t.take (lfind t c)
def lcutB (t:Tx) (c:UInt8):Tx:=t.drop (lfind t c+1)
theorem lcutA_none {t:Tx} {c:UInt8} (h:c∉t):lcutA t c=t:=by
 unfold lcutA
 have h1:=lfind_le t c
 have h2:¬ lfind t c < t.length:=fun h'=>h (lfind_lt.1 h')
 rw [show lfind t c=t.length by omega,List.take_length]
theorem lcutB_none {t:Tx} {c:UInt8} (h:c∉t):lcutB t c=[]:=by
 unfold lcutB
 have h2:¬ lfind t c < t.length:=fun h'=>h (lfind_lt.1 h')
 exact List.drop_eq_nil_of_le (by omega)
theorem lcutA_len (t:Tx) (c:UInt8):(lcutA t c).length≤t.length:=by unfold lcutA;simp;omega
theorem lcutB_len (t:Tx) (c:UInt8):(lcutB t c).length≤t.length:=by unfold lcutB;simp
def LUrl.zero:LUrl:=⟨[],[],[],0,[],[],[],false,false⟩
def lport (sc r:Tx):Option Int:=
 if 58∈r then
  match lnumber (lcutB r 58) with
  | some n=>if 1≤n∧n≤65535 then some (if n=lusual sc then 0 else n) else none
  | none=>none
 else some 0
def lweb1 (sc r0:Tx):LUrl×Bool:=
 let r1:=lcutA r0 35
 let r2:=lcutA r1 63
 let r3:=lcutA r2 47
 let r4:=if 64∈r3 then lcutB r3 64 else r3
 match lport sc r4 with
 | none=>(LUrl.zero,false)
 | some p=>
  let u:LUrl:=⟨sc,if 64∈r3 then lcutA r3 64 else [],llow (lcutA r4 58),p,if 47∈r2 then r2.drop (lfind r2 47) else [47],lcutB r1 63,lcutB r0 35,decide (63∈r1),decide (35∈r0)⟩
  (u,lurlOK u)
def lparse (t:Tx):LUrl×Bool:=
 if 58∈t then
  let sc:=llow (lcutA t 58)
  let rest:=lcutB t 58
  if lweb sc then
   if rest.take 2=[47,47] then lweb1 sc (rest.drop 2) else (LUrl.zero,false)
  else
   let u:LUrl:=⟨sc,[],[],0,lcutA (lcutA rest 35) 63,[],[],false,false⟩
   (u,lurlOK u)
 else (LUrl.zero,false)
structure LTarget where
 url:Tx
 prio:Int
 weight:Int
 deriving DecidableEq
structure LPeer where
 target:LTarget
 fails:Int
 retry:Int
 gone:Bool
 deriving DecidableEq
def ltargetOK (x:LTarget):Bool:=
 (lparse x.url).2 && lweb (lparse x.url).1.scheme && !(lparse x.url).1.hasF && decide (ltext (lparse x.url).1=x.url) && decide (1≤x.prio∧x.prio≤9) && decide (1≤x.weight∧x.weight≤9)
def lpeerOK (x:LPeer):Bool:=
 ltargetOK x.target && decide (0≤x.fails∧x.fails≤1000000) && decide (0≤x.retry∧x.retry≤1000032) && !(decide (x.fails=0) && decide (x.retry≠0))
def lunlike:List Tx→List LPeer→Bool
 | _,[]=>true
 | seen,p :: r=>decide (p.target.url∉seen) && lunlike (seen++[p.target.url]) r
def lpeersOK (l:List LPeer):Bool:=decide (l.length≤4) && l.all lpeerOK && lunlike [] l
end Go.KP
end
section
namespace Go.KP
def lshown (t:Tx):Bool:=t.all fun c=>decide (33≤c.toNat∧c.toNat≤126)
def lhasAny (t wo:Tx):Bool:=t.any fun c=>decide (c∈wo)
theorem lonly_eq (t wo:Tx):lonly t wo=(lshown t && !lhasAny t wo):=by
 unfold lonly lshown lhasAny
 induction t with
 | nil=>rfl
 | cons c r ih=>
  simp only [List.all_cons,List.any_cons,ih]
  cases decide (33≤c.toNat∧c.toNat≤126)<;>cases decide (c∈wo)<;>simp
theorem lonly_nil (t:Tx):lonly t []=lshown t:=by simp [lonly,lshown]
theorem lshown_append (a b:Tx):lshown (a++b)=(lshown a && lshown b):=by simp [lshown]
theorem lhostFrom_shown:∀ (t:Tx) (last:Bool),lhostFrom last t=true→lshown t=true
 | [],_,_=>rfl
 | c :: r,last,h=>by
  simp only [lhostFrom] at h
  split at h
  · cases h
  · rename_i hc
    have ih:=lhostFrom_shown r _ h
    have hh:lshown (c :: r)=(decide (33≤c.toNat∧c.toNat≤126) && lshown r):=rfl
    rw [hh,ih]
    simp [isLow,isDig] at hc ⊢
    omega
theorem lhost_shown {t:Tx} (h:lhost t=true):lshown t=true:=lhostFrom_shown t _ h
def iportTx (p:Int):Tx:=if p=0 then [] else 58 :: ldec p
def itext (u:LUrl):Tx:=
 if lweb u.scheme then
  u.scheme++[58,47,47]++(if u.user=[] then [] else u.user++[64])++u.host++iportTx u.port++u.path++(if u.hasQ then 63 :: u.query else [])++(if u.hasF then 35 :: u.frag else [])
 else u.scheme++[58]++u.path
theorem itext_eq {u:LUrl} (h:0≤u.port):itext u=ltext u:=by
 unfold itext ltext
 split
 · have:iportTx u.port=portTx u.port:=by
    unfold iportTx portTx ldec
    by_cases h0:u.port=0
    · simp [h0]
    · have g1:0 < u.port:=by omega
      have g2:¬ u.port < 0:=by omega
      simp only [h0,g1,g2,if_true,if_false]
   rw [this];simp
 · rfl
def iurlOK (u:LUrl):Bool:=
 lscheme u.scheme && decide (u.user.length+u.host.length+u.path.length+u.query.length+u.frag.length≤100) && decide ((itext u).length≤100) && lshown (u.user++u.host++u.path++u.query++u.frag) && !lhasAny u.path [63,35] &&
 (if lweb u.scheme then !lhasAny u.user [47,63,35,64] && lhost u.host && decide (0≤u.port∧u.port≤65535) && decide (u.port≠lusual u.scheme) && decide (0 < u.path.length) && decide ((u.path.getD 0 0).toNat=47) && !lhasAny u.query [35] && (u.hasQ || decide (u.query=[])) && (u.hasF || decide (u.frag=[]))
  else decide (u.user=[]) && decide (u.host=[]) && decide (u.port=0) && decide (u.query=[]) && decide (u.frag=[]) && !u.hasQ && !u.hasF)
theorem iurlOK_eq (u:LUrl):iurlOK u=lurlOK u:=by
 by_cases hp:0≤u.port
 · unfold iurlOK lurlOK
   rw [itext_eq hp]
   simp only [lonly_eq,lonly_nil,lshown_append]
   by_cases hw:lweb u.scheme=true
   · rw [if_pos hw,if_pos hw]
     rw [Bool.eq_iff_iff]
     have hl:(ltext u).length=u.scheme.length+3+(if u.user=[] then 0 else u.user.length+1)+(u.host.length+(portTx u.port).length+u.path.length)+(if u.hasQ then u.query.length+1 else 0)+(if u.hasF then u.frag.length+1 else 0):=by
      unfold ltext
      rw [if_pos hw]
      simp only [List.length_append]
      congr 1
      · congr 1
        · congr 1
          congr 1
          split<;>simp
        · split<;>simp
      · split<;>simp
     constructor
     · intro h
       simp only [Bool.and_eq_true,Bool.or_eq_true,decide_eq_true_eq,Bool.not_eq_true'] at h ⊢
       obtain ⟨⟨⟨⟨⟨h1,h2⟩,h3⟩,h4⟩,h5⟩,h6⟩:=h
       obtain ⟨⟨⟨⟨⟨⟨⟨⟨a1,a2⟩,a3⟩,a4⟩,a5⟩,a6⟩,a7⟩,a8⟩,a9⟩:=h6
       obtain ⟨⟨⟨⟨b1,b2⟩,b3⟩,b4⟩,b5⟩:=h4
       exact ⟨⟨⟨⟨⟨⟨⟨h1,a8⟩,a9⟩,b3,h5⟩,b4,a7⟩,b5,by simp [lhasAny]⟩,h3⟩,⟨⟨⟨⟨⟨b1,a1⟩,a2⟩,a3⟩,a4⟩,a5⟩,a6⟩
     · intro h
       simp only [Bool.and_eq_true,Bool.or_eq_true,decide_eq_true_eq,Bool.not_eq_true'] at h ⊢
       obtain ⟨⟨⟨⟨⟨⟨⟨c1,c2⟩,c3⟩,c4⟩,c5⟩,c6⟩,c7⟩,c8⟩:=h
       obtain ⟨⟨⟨⟨⟨d1,d2⟩,d3⟩,d4⟩,d5⟩,d6⟩:=c8
       have e:=lhost_shown d2
       refine ⟨⟨⟨⟨⟨c1,?_⟩,c7⟩,?_⟩,c4.2⟩,⟨⟨⟨⟨⟨⟨⟨⟨d1.2,d2⟩,d3⟩,d4⟩,d5⟩,d6⟩,c5.2⟩,c2⟩,c3⟩⟩
       · have q1:u.query.length≤(if u.hasQ then u.query.length+1 else 0):=by
          rcases c2 with h | h
          · rw [h];simp
          · rw [h];simp
         have q2:u.frag.length≤(if u.hasF then u.frag.length+1 else 0):=by
          rcases c3 with h | h
          · rw [h];simp
          · rw [h];simp
         have q3:u.user.length≤(if u.user=[] then 0 else u.user.length+1):=by
          split
          · rename_i h;rw [h];simp
          · omega
         omega
       · exact ⟨⟨⟨⟨d1.1,e⟩,c4.1⟩,c5.1⟩,c6.1⟩
   · rw [if_neg hw,if_neg hw]
     rw [Bool.eq_iff_iff]
     have hl:(ltext u).length=u.scheme.length+1+u.path.length:=by
      unfold ltext
      rw [if_neg hw]
      simp;omega
     constructor
     · intro h
       simp only [Bool.and_eq_true,Bool.or_eq_true,decide_eq_true_eq,Bool.not_eq_true'] at h ⊢
       obtain ⟨⟨⟨⟨⟨h1,h2⟩,h3⟩,h4⟩,h5⟩,⟨⟨⟨⟨⟨⟨a1,a2⟩,a3⟩,a4⟩,a5⟩,a6⟩,a7⟩⟩:=h
       obtain ⟨⟨⟨⟨b1,b2⟩,b3⟩,b4⟩,b5⟩:=h4
       have e:lhasAny u.frag []=false:=by simp [lhasAny]
       have e2:lhasAny u.query [35]=false:=by rw [a4];rfl
       refine ⟨⟨⟨⟨⟨⟨⟨h1,.inr a4⟩,.inr a5⟩,b3,h5⟩,b4,e2⟩,b5,by simp [lhasAny]⟩,h3⟩,⟨⟨⟨⟨a1,a2⟩,a3⟩,a6⟩,a7⟩⟩
     · intro h
       simp only [Bool.and_eq_true,Bool.or_eq_true,decide_eq_true_eq,Bool.not_eq_true'] at h ⊢
       obtain ⟨⟨⟨⟨⟨⟨⟨c1,c2⟩,c3⟩,c4⟩,c5⟩,c6⟩,c7⟩,⟨⟨⟨⟨d1,d2⟩,d3⟩,d4⟩,d5⟩⟩:=h
       have q:u.query=[]:=by rcases c2 with h | h;(rw [d4] at h;cases h);exact h
       have f:u.frag=[]:=by rcases c3 with h | h;(rw [d5] at h;cases h);exact h
       refine ⟨⟨⟨⟨⟨c1,?_⟩,c7⟩,?_⟩,c4.2⟩,⟨⟨⟨⟨⟨⟨d1,d2⟩,d3⟩,q⟩,f⟩,d4⟩,d5⟩⟩
       · simp [d1,d2,q,f];omega
       · refine ⟨⟨⟨⟨?_,?_⟩,c4.1⟩,c5.1⟩,c6.1⟩<;>simp [d1,d2,lshown]
 · have e1:iurlOK u=false:=by
    unfold iurlOK
    have h1:decide (0≤u.port∧u.port≤65535)=false:=by simp;omega
    have h2:decide (u.port=0)=false:=by simp;omega
    simp [h1,h2]
   have e2:lurlOK u=false:=by
    unfold lurlOK
    have h1:decide (0≤u.port∧u.port≤65535)=false:=by simp;omega
    have h2:decide (u.port=0)=false:=by simp;omega
    simp [h1,h2]
   rw [e1,e2]
end Go.KP
end
section
namespace Go.KP
theorem lparse_ok {t:Tx} (h:(lparse t).2=true):lurlOK (lparse t).1=true:=by
 unfold lparse lweb1 at h ⊢
 split at h
 · rename_i h1
   rw [if_pos h1]
   dsimp only at h ⊢
   split at h
   · rename_i h2
     rw [if_pos h2]
     split at h
     · rename_i h3
       rw [if_pos h3]
       split at h
       · cases h
       · exact h
     · cases h
   · rename_i h2
     rw [if_neg h2]
     exact h
 · cases h
theorem lurlOK_port {u:LUrl} (h:lurlOK u=true):0≤u.port:=by
 unfold lurlOK at h
 simp only [Bool.and_eq_true] at h
 obtain ⟨_,h⟩:=h
 split at h
 · simp only [Bool.and_eq_true,decide_eq_true_eq] at h
   exact h.1.1.1.2.1
 · simp only [Bool.and_eq_true,decide_eq_true_eq] at h
   omega
theorem lurlOK_frag {u:LUrl} (h:lurlOK u=true) (hf:u.hasF=false):u.frag=[]:=by
 unfold lurlOK at h
 simp only [Bool.and_eq_true,Bool.or_eq_true,decide_eq_true_eq,hf] at h
 rcases h.1.1.1.1.1.2 with h | h
 · cases h
 · exact h
theorem lurlOK_len {u:LUrl} (h:lurlOK u=true):(ltext u).length≤100:=by
 unfold lurlOK at h
 simp only [Bool.and_eq_true,decide_eq_true_eq] at h
 exact h.1.2
theorem lcutB_sub {t:Tx} {c x:UInt8} (h:x∈lcutB t c):x∈t:=List.mem_of_mem_drop h
theorem lparse_hasF {t:Tx} (h:(lparse t).1.hasF=true):35∈t:=by
 unfold lparse lweb1 at h
 split at h
 · dsimp only at h
   split at h
   · split at h
     · split at h
       · cases h
       · simp only [decide_eq_true_eq] at h
         exact lcutB_sub (List.mem_of_mem_drop h)
     · cases h
   · cases h
 · cases h
theorem ldig_dig:∀ (n:Nat),(ldig n).all isDig=true:=by
 intro n
 induction n using Nat.strongRecOn with
 | ind n ih=>
  by_cases h:n < 10
  · rw [ldig_lt h]
    simp [isDig]
    omega
  · rw [ldig_ge h,List.all_append,ih (n / 10) (by omega)]
    simp [isDig]
    omega
theorem lonly_not {t wo:Tx} {c:UInt8} (h:lonly t wo=true) (hc:c∈wo):c∉t:=by
 intro hm
 unfold lonly at h
 rw [List.all_eq_true] at h
 have:=h c hm
 simp [hc] at this
theorem lhost_not35:∀ (t:Tx) (last:Bool),lhostFrom last t=true→35∉t
 | [],_,_=>by simp
 | c :: r,last,h=>by
  simp only [lhostFrom] at h
  split at h
  · cases h
  · rename_i hc
    have ih:=lhost_not35 r _ h
    intro hm
    rcases List.mem_cons.1 hm with e | e
    · subst e;apply hc;simp [isLow,isDig]
    · exact ih e
theorem lweb_not35 {s:Tx} (h:lweb s=true):35∉s:=by
 simp [lweb] at h
 rcases h with h | h<;>subst h<;>decide
def iclean (t:Tx):Option Tx:=
 if t.length≤65536 then
  if (lparse t).2 && lweb (lparse t).1.scheme then some (itext { (lparse t).1 with frag:=[],hasF:=false }) else none
 else none
theorem iclean_eq (t:Tx):decide (iclean t=some t)=((lparse t).2 && lweb (lparse t).1.scheme && !(lparse t).1.hasF && decide (ltext (lparse t).1=t)):=by
 rw [Bool.eq_iff_iff]
 simp only [decide_eq_true_eq,Bool.and_eq_true,Bool.not_eq_true']
 unfold iclean
 constructor
 · intro h
   split at h
   · split at h
     · rename_i h1 h2
       simp only [Bool.and_eq_true] at h2
       simp only [Option.some.injEq] at h
       have hok:=lparse_ok h2.1
       have hp:=lurlOK_port hok
       cases hf:(lparse t).1.hasF with
       | true=>
        exfalso
        have h35:=lparse_hasF hf
        rw [itext_eq (by exact hp)] at h
        have hn:35∉ltext { (lparse t).1 with frag:=[],hasF:=false }:=by
         have hok2:=hok
         unfold lurlOK at hok2
         simp only [Bool.and_eq_true,Bool.or_eq_true,decide_eq_true_eq,h2.2,if_true] at hok2
         obtain ⟨⟨⟨⟨⟨⟨⟨c1,c2⟩,c3⟩,c4⟩,c5⟩,c6⟩,c7⟩,⟨⟨⟨⟨⟨d1,d2⟩,d3⟩,d4⟩,d5⟩,d6⟩⟩:=hok2
         have e1:=lonly_not (c:=35) c4 (by simp)
         have e2:=lonly_not (c:=35) c5 (by simp)
         have e3:=lonly_not (c:=35) d1 (by simp)
         have e4:=lhost_not35 _ _ d2
         have e5:=lweb_not35 h2.2
         have e6:35∉ldig (lparse t).1.port.toNat:=fun hm=>by
          have:=ldig_dig (lparse t).1.port.toNat
          rw [List.all_eq_true] at this
          have:=this 35 hm
          simp [isDig] at this
         unfold ltext portTx
         rw [if_pos h2.2]
         dsimp only
         intro hm
         simp only [List.mem_append] at hm
         rcases hm with (((hm | hm) | hm) | hm) | hm
         · rcases hm with hm | hm
           · exact e5 hm
           · simp at hm
         · split at hm
           · simp at hm
           · simp at hm;exact e3 hm
         · rcases hm with (hm | hm) | hm
           · exact e4 hm
           · split at hm
             · simp at hm;exact e6 hm
             · simp at hm
           · exact e1 hm
         · split at hm
           · simp at hm;exact e2 hm
           · simp at hm
         · simp at hm
        rw [h] at hn
        exact hn h35
       | false=>
        have hfr:=lurlOK_frag hok hf
        have e:{ (lparse t).1 with frag:=[],hasF:=false }=(lparse t).1:=by
         rw [← hfr,← hf]
        rw [e,itext_eq hp] at h
        exact ⟨⟨h2,rfl⟩,h⟩
     · cases h
   · cases h
 · rintro ⟨⟨⟨h1,h2⟩,hf⟩,h⟩
   have hok:=lparse_ok h1
   have hfr:=lurlOK_frag hok hf
   have hl:=lurlOK_len hok
   rw [h] at hl
   rw [if_pos (by omega),h1,h2]
   have e:{ (lparse t).1 with frag:=[],hasF:=false }=(lparse t).1:=by
    rw [← hfr,← hf]
   rw [e,itext_eq (lurlOK_port hok),h]
   rfl
theorem itargetOK_eq (x:LTarget):(decide (iclean x.url=some x.url) && decide (1≤x.prio∧x.prio≤9) && decide (1≤x.weight∧x.weight≤9))=ltargetOK x:=by
 rw [iclean_eq];rfl
end Go.KP
end
section
namespace Go.KP
theorem u8_dig (k:Nat) (h:k < 10):(UInt8.ofNat (48+k)).toNat=48+k:=by
 rw [UInt8.toNat_ofNat'];omega
theorem lval_ldig (n:Nat):lval (ldig n)=n:=by
 induction n using Nat.strongRecOn with
 | ind n ih=>
  by_cases h:n < 10
  · rw [ldig_lt h]
    have:=u8_dig n h
    simp only [lval,List.foldl_cons,List.foldl_nil,this];omega
  · rw [ldig_ge h,lval_snoc,ih (n / 10) (by omega),u8_dig _ (by omega)]
    omega
theorem ldig_ne (n:Nat):ldig n≠[]:=by
 by_cases h:n < 10
 · rw [ldig_lt h];simp
 · rw [ldig_ge h];simp
theorem ldig_head (n:Nat) (h0:n≠0):((ldig n).getD 0 0).toNat≠48:=by
 induction n using Nat.strongRecOn with
 | ind n ih=>
  by_cases h:n < 10
  · rw [ldig_lt h]
    have:=u8_dig n h
    simp only [List.getD_cons_zero,this];omega
  · rw [ldig_ge h]
    have h1:=ih (n / 10) (by omega) (by omega)
    cases hl:ldig (n / 10) with
    | nil=>exact absurd hl (ldig_ne _)
    | cons c r=>rw [hl] at h1;simpa using h1
theorem isDig_ofNat {c:UInt8} (h:isDig c=true):UInt8.ofNat (48+(c.toNat - 48))=c:=by
 simp only [isDig,decide_eq_true_eq] at h
 apply UInt8.toNat_inj.1
 rw [u8_dig _ (by omega)];omega
theorem ldig_lval:∀ (k:Nat) (t:Tx),t.length=k→t≠[]→t.all isDig=true→((t.getD 0 0).toNat=48→t.length=1)→ldig (lval t)=t:=by
 intro k
 induction k with
 | zero=>intro t ht h;exact absurd (List.eq_nil_of_length_eq_zero ht) h
 | succ k ih=>
  intro t ht hne ha hz
  obtain ⟨r,c,rfl⟩:∃ r c,t=r++[c]:=⟨t.dropLast,t.getLast hne,(List.dropLast_concat_getLast _).symm⟩
  simp only [List.all_append,Bool.and_eq_true] at ha
  have hc:isDig c=true:=by simpa using ha.2
  have hc':=hc
  simp only [isDig,decide_eq_true_eq] at hc'
  rw [lval_snoc]
  cases r with
  | nil=>
   rw [show lval []*10+(c.toNat - 48)=c.toNat - 48 by simp [lval]]
   rw [ldig_lt (by omega),isDig_ofNat hc];rfl
  | cons d r=>
   have hd:d.toNat≠48:=fun e=>by
    have:=hz (by simpa using e)
    simp at this
   have hi:=ih (d :: r) (by simpa using ht) (by simp) ha.1 (fun e=>absurd (by simpa using e) hd)
   have hpos:lval (d :: r)≠0:=fun e=>by
    rw [e,ldig_lt (by omega)] at hi
    have h2:UInt8.ofNat 48=d:=by simpa using (List.cons.inj hi).1
    exact hd (by rw [← h2];rfl)
   rw [ldig_ge (by omega)]
   have e1:(lval (d :: r)*10+(c.toNat - 48)) / 10=lval (d :: r):=by omega
   have e2:(lval (d :: r)*10+(c.toNat - 48)) % 10=c.toNat - 48:=by omega
   rw [e1,e2,hi,isDig_ofNat hc]
def ndigits (t:Tx):Nat:=match t with
 | []=>0
 | c :: r=>if c=45 then r.length else (c :: r).length
theorem numBad_ldig (neg:Bool) (n:Nat) (h18:(ldig n).length≤18) (hn:neg=true→n≠0):numBad neg (ldig n)=false:=by
 unfold numBad
 have h1:(ldig n).length≠0:=fun e=>ldig_ne n (List.eq_nil_of_length_eq_zero e)
 by_cases h0:n=0
 · subst h0
   cases neg with
   | true=>exact absurd rfl (hn rfl)
   | false=>rw [ldig_lt (by omega)];simp
 · have h2:=ldig_head n h0
   have e1:decide ((ldig n).length=0∨18 < (ldig n).length)=false:=by simp only [decide_eq_false_iff_not];omega
   have e2:decide (((ldig n).getD 0 0).toNat=48)=false:=by simp only [decide_eq_false_iff_not];exact h2
   rw [e1,e2];rfl
theorem lnumber_ldec (n:Int) (h:ndigits (ldec n)≤18):lnumber (ldec n)=some n:=by
 unfold ldec at h ⊢
 by_cases h0:n < 0
 · rw [if_pos h0] at h ⊢
   have h':(ldig (-n).toNat).length≤18:=by simpa [ndigits] using h
   simp only [lnumber,if_true,lnumU]
   rw [numBad_ldig true _ h' (fun _=>by omega),if_neg (by simp),if_pos (ldig_dig _),lval_ldig]
   simp;omega
 · rw [if_neg h0] at h ⊢
   cases hl:ldig n.toNat with
   | nil=>exact absurd hl (ldig_ne _)
   | cons c r=>
    have hd:=ldig_dig n.toNat
    rw [hl] at hd h
    have hc:c≠45:=fun e=>by subst e;simp [isDig] at hd
    have h':(ldig n.toNat).length≤18:=by rw [hl];simpa [ndigits,hc] using h
    simp only [lnumber,hc,if_false]
    rw [← hl]
    simp only [lnumU]
    rw [numBad_ldig false _ h' (fun e=>by cases e),if_neg (by simp),if_pos (ldig_dig _),lval_ldig]
    simp;omega
theorem lnumber_some {t:Tx} {n:Int} (h:lnumber t=some n):ldec n=t∧ndigits t≤18 ∧
 ∃ u:Tx,u≠[]∧u.all isDig=true∧u.length≤18∧((t=45 :: u∧n=-(lval u:Int))∨(t=u∧n=lval u)):=by
 have key:∀ (neg:Bool) (u:Tx),lnumU neg u=some n→u≠[]∧u.length≤18∧u.all isDig=true∧ldig (lval u)=u∧(neg=true→lval u≠0)∧n=(if neg then - (lval u:Int) else (lval u:Int)):=by
  intro neg u hu
  unfold lnumU at hu
  split at hu
  · cases hu
  · rename_i hb
    split at hu
    · rename_i ha
      have hn:=(Option.some.inj hu).symm
      have hb':numBad neg u=false:=by simpa using hb
      unfold numBad at hb'
      rw [Bool.or_eq_false_iff] at hb'
      obtain ⟨q1,q2⟩:=hb'
      rw [decide_eq_false_iff_not] at q1
      have hne:u≠[]:=fun e=>q1 (by rw [e];simp)
      have hz:(u.getD 0 0).toNat=48→u.length=1∧neg=false:=fun e=>by
       rw [Bool.and_eq_false_iff] at q2
       rcases q2 with q2 | q2
       · simp only [decide_eq_false_iff_not] at q2;exact absurd e q2
       · rw [Bool.or_eq_false_iff,decide_eq_false_iff_not] at q2
         have:u.length≠0:=fun e=>hne (List.eq_nil_of_length_eq_zero e)
         exact ⟨by omega,q2.2⟩
      have hl:=ldig_lval u.length u rfl hne ha (fun e=>(hz e).1)
      refine ⟨hne,by omega,ha,hl,fun hneg h0=>?_,hn⟩
      rw [h0,ldig_lt (by omega)] at hl
      have:=(hz (by rw [← hl];rfl)).2
      rw [hneg] at this;cases this
    · cases hu
 unfold lnumber at h
 split at h
 · cases h
 · rename_i c r
   split at h
   · rename_i hc
     subst hc
     obtain ⟨h1,h2,h3,h4,h5,h6⟩:=key true r h
     simp only [if_true] at h6
     have h5':=h5 rfl
     refine ⟨?_,by simpa [ndigits] using h2,r,h1,h3,h2,.inl ⟨rfl,h6⟩⟩
     unfold ldec
     rw [if_pos (by omega),h6]
     rw [show (- -(lval r:Int)).toNat=lval r by omega,h4]
   · rename_i hc
     obtain ⟨h1,h2,h3,h4,h5,h6⟩:=key false (c :: r) h
     have h6:n=(lval (c :: r):Int):=h6
     refine ⟨?_,by simpa [ndigits,hc] using h2,c :: r,h1,h3,h2,.inr ⟨rfl,h6⟩⟩
     unfold ldec
     rw [if_neg (by omega),h6]
     rw [show ((lval (c :: r):Int)).toNat=lval (c :: r) by omega,h4]
end Go.KP
end
section
namespace Go.KP
theorem lparse_small {t:Tx} (ht:t.length < 1099511627776):(lparse t).1.Small:=by
 have hz:LUrl.zero.Small:=by simp [LUrl.Small,LUrl.zero]
 have hA:∀ (t:Tx) c,(lcutA t c).length≤t.length:=lcutA_len
 have hB:∀ (t:Tx) c,(lcutB t c).length≤t.length:=lcutB_len
 unfold lparse
 split
 · have h1:(llow (lcutA t 58)).length≤t.length:=by have:=hA t 58;simpa [llow] using this
   have h2:=hB t 58
   dsimp only
   split
   · split
     · unfold lweb1
       dsimp only
       have h3:((lcutB t 58).drop 2).length≤t.length:=by simp;omega
       generalize (lcutB t 58).drop 2=r0 at h3
       have h4:=hA r0 35
       have h4':=hB r0 35
       generalize lcutA r0 35=r1 at h4
       have h5:=hA r1 63
       have h5':=hB r1 63
       generalize lcutA r1 63=r2 at h5
       have h6:=hA r2 47
       generalize lcutA r2 47=r3 at h6
       have h7:=hA r3 64
       have h7':(if 64∈r3 then lcutB r3 64 else r3).length≤r3.length:=by
        split
        · exact hB r3 64
        · omega
       generalize (if 64∈r3 then lcutB r3 64 else r3)=r4 at h7'
       have h8:(llow (lcutA r4 58)).length≤r4.length:=by have:=hA r4 58;simpa [llow] using this
       split
       · exact hz
       · rename_i p hp
         refine ⟨by show (llow _).length < _;omega,?_,by show (llow _).length < _;omega,?_,by show (lcutB r1 63).length < _;omega,by show (lcutB r0 35).length < _;omega,?_⟩
         · show (if 64∈r3 then lcutA r3 64 else []).length < _
           split
           · omega
           · simp
         · show (if 47∈r2 then r2.drop (lfind r2 47) else [47]).length < _
           split
           · simp;omega
           · simp
         · show p≤_
           unfold lport at hp
           split at hp
           · split at hp
             · split at hp
               · have:=Option.some.inj hp
                 split at this<;>omega
               · cases hp
             · cases hp
           · have:=Option.some.inj hp;omega
     · exact hz
   · have h3:=hA (lcutB t 58) 35
     have h4:=hA (lcutA (lcutB t 58) 35) 63
     refine ⟨by show (llow _).length < _;omega,by simp,by simp,by show (lcutA _ _).length < _;omega,by simp,by simp,by show (0:Int)≤_;omega⟩
 · exact hz
def LTarget.Small (x:LTarget):Prop:=x.url.length < 1099511627776
theorem lunlike_take (l:List LPeer) (i:Nat) (h:i < l.length):lunlike [] (l.take (i+1))=(lunlike [] (l.take i) && decide (l[i].target.url∉(l.take i).map fun p=>p.target.url)):=by
 have key:∀ (l:List LPeer) (i:Nat) (seen:List Tx) (h:i < l.length),lunlike seen (l.take (i+1))=(lunlike seen (l.take i) && decide (l[i].target.url∉seen++(l.take i).map fun p=>p.target.url)):=by
  intro l
  induction l with
  | nil=>intro i seen h;simp at h
  | cons p l ih=>
   intro i seen h
   cases i with
   | zero=>simp [lunlike]
   | succ i=>
    simp only [List.take_succ_cons,lunlike,List.getElem_cons_succ,List.map_cons]
    rw [ih i (seen++[p.target.url]) (by simpa using h),Bool.and_assoc]
    congr 2
    simp
 simpa using key l i [] h
theorem lunlike_false_of_take (l:List LPeer) (i:Nat) (h:lunlike [] (l.take i)=false):lunlike [] l=false:=by
 have key:∀ (l:List LPeer) (i:Nat) (seen:List Tx),lunlike seen (l.take i)=false→lunlike seen l=false:=by
  intro l
  induction l with
  | nil=>intro i seen h;simp [lunlike] at h
  | cons p l ih=>
   intro i seen h
   cases i with
   | zero=>simp [lunlike] at h
   | succ i=>
    simp only [List.take_succ_cons,lunlike] at h ⊢
    cases hd:decide (p.target.url∉seen) with
    | false=>rfl
    | true=>
     rw [hd] at h
     simp only [Bool.true_and] at h ⊢
     exact ih i _ h
 exact key l i [] h
end Go.KP
end
section
namespace Go.KP
def LUrl.Tiny (u:LUrl):Prop:=u.scheme.length < 1048577∧u.user.length < 1048577∧u.host.length < 1048577∧u.path.length < 1048577∧u.query.length < 1048577∧u.frag.length < 1048577∧(0≤u.port∧u.port≤65535)
theorem lparse_tiny {t:Tx} (ht:t.length < 1048577):(lparse t).1.Tiny:=by
 have hz:LUrl.zero.Tiny:=by simp [LUrl.Tiny,LUrl.zero]
 have hA:∀ (t:Tx) c,(lcutA t c).length≤t.length:=lcutA_len
 have hB:∀ (t:Tx) c,(lcutB t c).length≤t.length:=lcutB_len
 unfold lparse
 split
 · have h1:(llow (lcutA t 58)).length≤t.length:=by have:=hA t 58;simpa [llow] using this
   have h2:=hB t 58
   dsimp only
   split
   · split
     · unfold lweb1
       dsimp only
       have h3:((lcutB t 58).drop 2).length≤t.length:=by simp;omega
       generalize (lcutB t 58).drop 2=r0 at h3
       have h4:=hA r0 35
       have h4':=hB r0 35
       generalize lcutA r0 35=r1 at h4
       have h5:=hA r1 63
       have h5':=hB r1 63
       generalize lcutA r1 63=r2 at h5
       have h6:=hA r2 47
       generalize lcutA r2 47=r3 at h6
       have h7:=hA r3 64
       have h7':(if 64∈r3 then lcutB r3 64 else r3).length≤r3.length:=by
        split
        · exact hB r3 64
        · omega
       generalize (if 64∈r3 then lcutB r3 64 else r3)=r4 at h7'
       have h8:(llow (lcutA r4 58)).length≤r4.length:=by have:=hA r4 58;simpa [llow] using this
       split
       · exact hz
       · rename_i p hp
         refine ⟨by show (llow _).length < _;omega,?_,by show (llow _).length < _;omega,?_,by show (lcutB r1 63).length < _;omega,by show (lcutB r0 35).length < _;omega,?_⟩
         · show (if 64∈r3 then lcutA r3 64 else []).length < _
           split
           · omega
           · simp
         · show (if 47∈r2 then r2.drop (lfind r2 47) else [47]).length < _
           split
           · simp;omega
           · simp
         · show 0≤p∧p≤65535
           unfold lport at hp
           split at hp
           · split at hp
             · split at hp
               · have:=Option.some.inj hp
                 split at this<;>omega
               · cases hp
             · cases hp
           · have:=Option.some.inj hp;omega
     · exact hz
   · have h3:=hA (lcutB t 58) 35
     have h4:=hA (lcutA (lcutB t 58) 35) 63
     refine ⟨by show (llow _).length < _;omega,by simp,by simp,by show (lcutA _ _).length < _;omega,by simp,by simp,by show (0:Int)≤0∧(0:Int)≤65535;omega⟩
 · exact hz
def tunlike (l:List LTarget):Bool:=lunlike [] (l.map fun t=>⟨t,0,0,false⟩)
theorem tunlike_take (l:List LTarget) (i:Nat) (h:i < l.length):tunlike (l.take (i+1))=(tunlike (l.take i) && decide (l[i].url∉(l.take i).map fun t=>t.url)):=by
 have:=lunlike_take (l.map fun t=>(⟨t,0,0,false⟩:LPeer)) i (by simpa using h)
 unfold tunlike
 rw [← List.map_take,← List.map_take] at this
 rw [this]
 congr 2
 simp [List.map_map,Function.comp_def]
theorem tunlike_false (l:List LTarget) (i:Nat) (h:tunlike (l.take i)=false):tunlike l=false:=by
 unfold tunlike at h ⊢
 rw [List.map_take] at h
 exact lunlike_false_of_take _ i h
theorem lunlike_urls:∀ (l l':List LPeer) (seen:List Tx),l.map (fun p=>p.target.url)=l'.map (fun p=>p.target.url)→lunlike seen l=lunlike seen l'
 | [],[],_,_=>rfl
 | p :: l,p' :: l',seen,h=>by
  simp only [List.map_cons,List.cons.injEq] at h
  simp only [lunlike,h.1]
  rw [lunlike_urls l l' _ h.2]
 | [],_ :: _,_,h=>by simp at h
 | _ :: _,[],_,h=>by simp at h
theorem tunlike_peers (l:List LPeer):tunlike (l.map fun p=>p.target)=lunlike [] l:=by
 unfold tunlike
 exact lunlike_urls _ _ _ (by simp [List.map_map,Function.comp_def])
end Go.KP
end
section
namespace Go.KP
def lready (now:Int) (x:LPeer):Bool:=!x.gone && decide (x.retry≤now)
def chMatch (now b:Int) (x:LPeer):Bool:=lready now x && decide (x.target.prio=b)
def chSum (now b:Int):List LPeer→Int
 | []=>0
 | x :: l=>(if chMatch now b x then x.target.weight else 0)+chSum now b l
structure ChInv (now:Int) (l:List LPeer) (a:Int×Int):Prop where
 lo:0≤a.2
 hi:a.2≤9*l.length
 sum:a.2=if a.2=0 then 0 else chSum now a.1 l
 low:∀ x∈l,lready now x=true→a.1≤x.target.prio∧0 < a.2
 nine:a.2≠0→1≤a.1∧a.1≤9
end Go.KP
end
section
namespace Go.KP
def lmkF (k:Nat) (out:Tx):Tx:=if h:k=0 then out else lmkF (k / 10) (UInt8.ofNat (48+k % 10) :: out)
termination_by k
decreasing_by omega
theorem lmkF_zero (out:Tx):lmkF 0 out=out:=by rw [lmkF];simp
theorem lmkF_pos {k:Nat} (h:k≠0) (out:Tx):lmkF k out=lmkF (k / 10) (UInt8.ofNat (48+k % 10) :: out):=by
 conv=>lhs;rw [lmkF]
 simp [h]
def lmk (k:Nat):Tx:=if k=0 then [109,48] else 109 :: lmkF k []
def mkPeer (k:Nat):LPeer:=⟨⟨lmk k,(k+1:Nat),(k+2:Nat)⟩,(k+3:Nat),(k+4:Nat),decide ((k+5) % 3=0)⟩
end Go.KP
end
section
namespace Go.KP
end Go.KP
end
section
namespace Go.KP
def lsum {α:Type} (f:α→Nat) (l:List α):Nat:=(l.map f).sum
def zS {α:Type} (f:α→Nat) (l:List α):Nat:=l.length+lsum f l
def bdS {α:Type} (B:Nat) (p:α→Prop) (l:List α):Prop:=l.length≤B∧∀ x∈l,p x
def cut (left:Int) (n:Nat):Int:=if left - n < 0 then -1 else left - n
theorem cut_neg {left:Int} {n:Nat} (h:left - n < 0):cut left n=-1:=if_pos h
theorem cut_pos {left:Int} {n:Nat} (h:¬ left - n < 0):cut left n=left - n:=if_neg h
theorem cut_small {left:Int} {n:Nat} (h:¬ cut left n < 0) (h0:0≤left):(n:Int)≤left∧cut left n=left - n:=by
 unfold cut at *
 split at h<;>rename_i h1
 · omega
 · rw [if_neg h1];omega
theorem lsum_take {α:Type} {f:α→Nat} (l:List α) {i:Nat} (h:i < l.length):lsum f (l.take (i+1))=lsum f (l.take i)+f l[i]:=by
 unfold lsum
 rw [List.take_add_one,List.getElem?_eq_getElem h,List.map_append,List.sum_append]
 simp
theorem lsum_le {α:Type} {f:α→Nat} (l:List α) (i:Nat):lsum f (l.take i)≤lsum f l:=by
 unfold lsum
 conv=>rhs;rw [← List.take_append_drop i l]
 rw [List.map_append,List.sum_append]
 omega
theorem lsum_mem {α:Type} {f:α→Nat} {l:List α} {x:α} (h:x∈l):f x≤lsum f l:=by
 unfold lsum
 induction l with
 | nil=>cases h
 | cons y l ih=>
  rcases List.mem_cons.1 h with rfl | h
  · simp
  · have:=ih h;simp;omega
theorem bdS_of {α:Type} {B:Nat} {f:α→Nat} {p:α→Prop} {l:List α} (hp:∀ x,f x≤B→p x) (h:zS f l≤B):bdS B p l:=by
 unfold zS at h
 exact ⟨by omega,fun x hx=>hp x (by have:=lsum_mem (f:=f) hx;omega)⟩
def zTarget (x:LTarget):Nat:=x.url.length
def bdTarget (B:Nat) (x:LTarget):Prop:=x.url.length≤B
theorem zTarget_bd {B:Nat} {x:LTarget} (h:zTarget x≤B):bdTarget B x:=by
 unfold zTarget at h
 unfold bdTarget
 exact by omega
def zPeer (x:LPeer):Nat:=zTarget x.target
def bdPeer (B:Nat) (x:LPeer):Prop:=bdTarget B x.target
theorem zPeer_bd {B:Nat} {x:LPeer} (h:zPeer x≤B):bdPeer B x:=by
 unfold zPeer at h
 unfold bdPeer
 exact zTarget_bd (by omega)
structure LGroup where
 name:Tx
 age:Int
 targets:List LTarget
 deriving DecidableEq
def zGroup (x:LGroup):Nat:=x.name.length+zS zTarget x.targets
def bdGroup (B:Nat) (x:LGroup):Prop:=x.name.length≤B∧bdS B (bdTarget B) x.targets
theorem zGroup_bd {B:Nat} {x:LGroup} (h:zGroup x≤B):bdGroup B x:=by
 unfold zGroup at h
 unfold bdGroup
 exact ⟨by omega,bdS_of (fun _ h=>zTarget_bd h) (show zS zTarget x.targets≤B by omega)⟩
structure LRule where
 name:Tx
 words:List Tx
 deriving DecidableEq
def zRule (x:LRule):Nat:=x.name.length+zS List.length x.words
def bdRule (B:Nat) (x:LRule):Prop:=x.name.length≤B∧bdS B (fun t=>t.length≤B) x.words
theorem zRule_bd {B:Nat} {x:LRule} (h:zRule x≤B):bdRule B x:=by
 unfold zRule at h
 unfold bdRule
 exact ⟨by omega,bdS_of (fun _ h=>h) (show zS List.length x.words≤B by omega)⟩
structure LPolicy where
 reportTo:Tx
 uris:List Tx
 rules:List LRule
 deriving DecidableEq
def zPolicy (x:LPolicy):Nat:=x.reportTo.length+zS List.length x.uris+zS zRule x.rules
def bdPolicy (B:Nat) (x:LPolicy):Prop:=x.reportTo.length≤B∧bdS B (fun t=>t.length≤B) x.uris∧bdS B (bdRule B) x.rules
theorem zPolicy_bd {B:Nat} {x:LPolicy} (h:zPolicy x≤B):bdPolicy B x:=by
 unfold zPolicy at h
 unfold bdPolicy
 exact ⟨by omega,bdS_of (fun _ h=>h) (show zS List.length x.uris≤B by omega),bdS_of (fun _ h=>zRule_bd h) (show zS zRule x.rules≤B by omega)⟩
structure LViolation where
 document:Tx
 referrer:Tx
 blocked:Tx
 source:Tx
 directive:Tx
 sample:Tx
 line:Int
 column:Int
 redirected:Bool
 deriving DecidableEq
structure LReport where
 id:Int
 born:Int
 tries:Int
 body:Tx
 deriving DecidableEq
def zReport (x:LReport):Nat:=x.body.length
def bdReport (B:Nat) (x:LReport):Prop:=x.body.length≤B
theorem zReport_bd {B:Nat} {x:LReport} (h:zReport x≤B):bdReport B x:=by
 unfold zReport at h
 unfold bdReport
 exact by omega
structure LQueue where
 items:List LReport
 recent:List Tx
 deriving DecidableEq
def zQueue (x:LQueue):Nat:=zS zReport x.items+zS List.length x.recent
def bdQueue (B:Nat) (x:LQueue):Prop:=bdS B (bdReport B) x.items∧bdS B (fun t=>t.length≤B) x.recent
theorem zQueue_bd {B:Nat} {x:LQueue} (h:zQueue x≤B):bdQueue B x:=by
 unfold zQueue at h
 unfold bdQueue
 exact ⟨bdS_of (fun _ h=>zReport_bd h) (show zS zReport x.items≤B by omega),bdS_of (fun _ h=>h) (show zS List.length x.recent≤B by omega)⟩
structure LChannel where
 group:LGroup
 peers:List LPeer
 queue:LQueue
 deriving DecidableEq
def zChannel (x:LChannel):Nat:=zGroup x.group+zS zPeer x.peers+zQueue x.queue
def bdChannel (B:Nat) (x:LChannel):Prop:=bdGroup B x.group∧bdS B (bdPeer B) x.peers∧bdQueue B x.queue
theorem zChannel_bd {B:Nat} {x:LChannel} (h:zChannel x≤B):bdChannel B x:=by
 unfold zChannel at h
 unfold bdChannel
 exact ⟨zGroup_bd (by omega),bdS_of (fun _ h=>zPeer_bd h) (show zS zPeer x.peers≤B by omega),zQueue_bd (by omega)⟩
structure LEntry where
 kind:Int
 id:Int
 at_:Int
 deriving DecidableEq
def bdEntry (B:Nat) (x:LEntry):Prop:=True
structure LWire where
 at_:Int
 status:Int
 group:Tx
 url:Tx
 ids:List Int
 body:Tx
 lost:Bool
 deriving DecidableEq
def zWire (x:LWire):Nat:=x.group.length+x.url.length+x.ids.length+x.body.length
def bdWire (B:Nat) (x:LWire):Prop:=x.group.length≤B∧x.url.length≤B∧x.ids.length≤B∧x.body.length≤B
theorem zWire_bd {B:Nat} {x:LWire} (h:zWire x≤B):bdWire B x:=by
 unfold zWire at h
 unfold bdWire
 exact ⟨by omega,by omega,by omega,by omega⟩
structure LPipe where
 channels:List LChannel
 policy:LPolicy
 now:Int
 next:Int
 log:List LEntry
 wires:List LWire
 deriving DecidableEq
def zPipe (x:LPipe):Nat:=zS zChannel x.channels+zPolicy x.policy+x.log.length+zS zWire x.wires
def bdPipe (B:Nat) (x:LPipe):Prop:=bdS B (bdChannel B) x.channels∧bdPolicy B x.policy∧x.log.length≤B∧bdS B (bdWire B) x.wires
theorem zPipe_bd {B:Nat} {x:LPipe} (h:zPipe x≤B):bdPipe B x:=by
 unfold zPipe at h
 unfold bdPipe
 exact ⟨bdS_of (fun _ h=>zChannel_bd h) (show zS zChannel x.channels≤B by omega),zPolicy_bd (by omega),by omega,bdS_of (fun _ h=>zWire_bd h) (show zS zWire x.wires≤B by omega)⟩
structure LEvent where
 kind:Int
 draw:Int
 status:Int
 ticks:Int
 text:Tx
 name:Tx
 violation:LViolation
 lost:Bool
 deriving DecidableEq
structure LParcel where
 id:Int
 age:Int
 body:Tx
 deriving DecidableEq
structure LBox where
 ids:List Int
 times:List Int
 bodies:List Tx
 deriving DecidableEq
end Go.KP
end
section
namespace Go.KP
def headAll (p q:UInt8→Bool) (t:Tx):Bool:=(t.take 1).all p && t.all q
theorem headAll_succ {p q:UInt8→Bool} (hpq:∀ c,p c=true→q c=true) (t:Tx) (i:Nat) (h:i < t.length):headAll p q (t.take (i+1))=(headAll p q (t.take i) && (if i=0 then p t[i] else q t[i])):=by
 unfold headAll
 rw [all_take_succ t _ i h]
 by_cases hi:i=0
 · subst hi
   have:(t.take (0+1)).take 1=[t[0]]:=by
    cases t with
    | nil=>simp at h
    | cons c r=>simp
   rw [this]
   have:=hpq t[0]
   cases hp:p t[0]<;>simp_all
 · have e1:(t.take (i+1)).take 1=t.take 1:=by rw [List.take_take,Nat.min_eq_left (by omega)]
   have e2:(t.take i).take 1=t.take 1:=by rw [List.take_take,Nat.min_eq_left (by omega)]
   rw [e1,e2]
   simp [hi,Bool.and_assoc]
theorem headAll_false {p q:UInt8→Bool} (t:Tx) (i:Nat) (h:i < t.length) (hb:(if i=0 then p t[i] else q t[i])=false):headAll p q t=false:=by
 unfold headAll
 by_cases hi:i=0
 · subst hi
   rw [if_pos rfl] at hb
   cases t with
   | nil=>simp at h
   | cons c r=>simp at hb;simp [hb]
 · rw [if_neg hi] at hb
   have:t.all q=false:=by rw [List.all_eq_false];exact ⟨t[i],List.getElem_mem h,by simp [hb]⟩
   simp [this]
def isUp (c:UInt8):Bool:=decide (65≤c.toNat∧c.toNat≤90)
def isLet (c:UInt8):Bool:=isLow c || isUp c || decide (c.toNat=95)
def isWrd (c:UInt8):Bool:=isLet c || isDig c
def lword (t:Tx):Bool:=decide (1≤t.length∧t.length≤12) && headAll isLet isWrd t
def isRul (c:UInt8):Bool:=isLow c || decide (c.toNat=45)
def lrname (t:Tx):Bool:=decide (1≤t.length∧t.length≤24) && headAll isLow isRul t
def luniq (l:List Tx):Bool:=decide l.Nodup
theorem nodup_snoc (l:List Tx) (x:Tx):(l++[x]).Nodup↔l.Nodup∧x∉l:=by
 rw [List.nodup_append]
 constructor
 · rintro ⟨h1,_,h3⟩
   exact ⟨h1,fun hx=>h3 x hx x (by simp) rfl⟩
 · rintro ⟨h1,h2⟩
   refine ⟨h1,by simp,fun a ha b hb e=>?_⟩
   rw [List.mem_singleton] at hb
   subst hb;subst e
   exact h2 ha
theorem luniq_take (l:List Tx) (i:Nat) (h:i < l.length):luniq (l.take (i+1))=(luniq (l.take i) && decide (l[i]∉l.take i)):=by
 unfold luniq
 rw [List.take_add_one,List.getElem?_eq_getElem h,Bool.eq_iff_iff,Bool.and_eq_true,decide_eq_true_eq,decide_eq_true_eq,decide_eq_true_eq]
 exact nodup_snoc _ _
theorem luniq_false (l:List Tx) (i:Nat) (h:luniq (l.take i)=false):luniq l=false:=by
 unfold luniq at *
 rw [decide_eq_false_iff_not] at *
 exact fun hn=>h (hn.sublist (List.take_sublist i l))
def lidx {α:Type} (l:List α) (p:α→Bool):Int:=match l.findIdx? p with
 | some i=>i
 | none=>-1
theorem lidx_ge {α:Type} (l:List α) (p:α→Bool):decide (0≤lidx l p)=l.any p:=by
 unfold lidx
 cases h:l.findIdx? p with
 | none=>
  rw [List.findIdx?_eq_none_iff] at h
  rw [Bool.eq_iff_iff]
  simp only [decide_eq_true_eq,List.any_eq_true]
  constructor
  · intro h;omega
  · rintro ⟨x,hx,hp⟩;rw [h x hx] at hp;cases hp
 | some i=>
  rw [List.findIdx?_eq_some_iff_getElem] at h
  obtain ⟨hi,hp,_⟩:=h
  show decide (0≤(i:Int))=_
  rw [decide_eq_true (by omega)]
  symm
  rw [List.any_eq_true]
  exact ⟨l[i],List.getElem_mem hi,hp⟩
theorem lidx_hit {α:Type} {l:List α} {p:α→Bool} {i:Nat} (hi:i < l.length) (hp:p l[i]=true) (h:∀ k (hk:k < i),p (l[k]'(by omega))=false):lidx l p=i:=by
 unfold lidx
 have:l.findIdx? p=some i:=by
  rw [List.findIdx?_eq_some_iff_getElem]
  exact ⟨hi,hp,fun j hj=>by simp [h j hj]⟩
 rw [this]
theorem lidx_none {α:Type} {l:List α} {p:α→Bool} (h:∀ k (hk:k < l.length),p l[k]=false):lidx l p=-1:=by
 unfold lidx
 have:l.findIdx? p=none:=by
  rw [List.findIdx?_eq_none_iff]
  intro x hx
  obtain ⟨k,hk,rfl⟩:=List.getElem_of_mem hx
  exact h k hk
 rw [this]
theorem lidx_find {α:Type} (l:List α) (p:α→Bool):(lidx l p=-1∧l.find? p=none)∨∃ i,∃ h:i < l.length,lidx l p=i∧l.find? p=some l[i]:=by
 unfold lidx
 cases h:l.findIdx? p with
 | none=>
  rw [List.findIdx?_eq_none_iff] at h
  exact .inl ⟨rfl,List.find?_eq_none.2 fun x hx=>by simp [h x hx]⟩
 | some i=>
  rw [List.findIdx?_eq_some_iff_getElem] at h
  obtain ⟨hi,hp,hlt⟩:=h
  exact .inr ⟨i,hi,rfl,List.find?_eq_some_iff_getElem.2 ⟨hp,i,hi,rfl,fun j hj=>by simpa using hlt j hj⟩⟩
theorem lidx_self {α:Type} (f:α→Tx) (l:List α) (i:Nat) (h:i < l.length):lidx l (fun x=>decide (f x=f l[i]))=(i:Int)↔f l[i]∉(l.map f).take i:=by
 constructor
 · intro hl hm
   unfold lidx at hl
   rw [List.mem_take_iff_getElem] at hm
   obtain ⟨k,hk,hke⟩:=hm
   have hk1:k < i:=by omega
   rw [List.getElem_map] at hke
   split at hl
   · rename_i j hj
     have:j=i:=by omega
     subst this
     rw [List.findIdx?_eq_some_iff_getElem] at hj
     have:=hj.2.2 k hk1
     simp [hke] at this
   · omega
 · intro hm
   refine lidx_hit h (by simp) fun k hk=>?_
   rw [decide_eq_false_iff_not]
   intro e
   exact hm (by rw [List.mem_take_iff_getElem];exact ⟨k,by simp;omega,by rw [List.getElem_map];exact e⟩)
theorem foldl_take_succ {α β:Type} (f:β→α→β) (b:β) (l:List α) (i:Nat) (h:i < l.length):(l.take (i+1)).foldl f b=f ((l.take i).foldl f b) l[i]:=by
 rw [List.take_add_one,List.getElem?_eq_getElem h,List.foldl_append];rfl
def lclean (t:Tx):Option Tx:=
 if (lparse t).2 && lweb (lparse t).1.scheme then some (ltext { (lparse t).1 with frag:=[],hasF:=false }) else none
theorem lcut_in {t:Tx} {c:UInt8} (h:c∈t):t.length=(lcutA t c).length+1+(lcutB t c).length:=by
 have:=lfind_lt.2 h
 unfold lcutA lcutB
 simp;omega
theorem llow_len (t:Tx):(llow t).length=t.length:=by simp [llow]
theorem lport_len {sc r:Tx} {p:Int} (h:lport sc r=some p):r.length≤(lcutA r 58).length+21:=by
 unfold lport at h
 split at h
 · rename_i hm
   rw [lcut_in hm]
   split at h
   · rename_i n hn
     obtain ⟨_,_,u,_,_,h3,h4⟩:=lnumber_some hn
     rcases h4 with ⟨h4,_⟩ | ⟨h4,_⟩
     · rw [h4];simp;omega
     · rw [h4];omega
   · cases h
 · rename_i hm
   rw [lcutA_none hm];omega
theorem lparse_len {t:Tx} (h:(lparse t).2=true) (hw:lweb (lparse t).1.scheme=true):t.length≤200:=by
 have hok:=lparse_ok h
 have hlen:=lurlOK_len hok
 unfold lparse at h hw hlen
 split at h
 · rename_i h58
   rw [if_pos h58] at hw hlen
   dsimp only at h hw hlen
   split at h
   · rename_i hsc
     rw [if_pos hsc] at hw hlen
     split at h
     · rename_i h2
       rw [if_pos h2] at hw hlen
       rw [lcut_in h58]
       have hr:(lcutB t 58).length≤2+((lcutB t 58).drop 2).length:=by simp;omega
       have hscl:=llow_len (lcutA t 58)
       generalize (lcutB t 58).drop 2=r0 at *
       generalize llow (lcutA t 58)=sc at *
       unfold lweb1 at h hw hlen
       dsimp only at h hw hlen
       have k0:r0.length≤(lcutA r0 35).length+(if 35∈r0 then 1+(lcutB r0 35).length else 0):=by
        split
        · rename_i hm;rw [lcut_in hm];omega
        · rename_i hm;rw [lcutA_none hm];omega
       generalize lcutA r0 35=r1 at *
       have k1:r1.length≤(lcutA r1 63).length+(if 63∈r1 then 1+(lcutB r1 63).length else 0):=by
        split
        · rename_i hm;rw [lcut_in hm];omega
        · rename_i hm;rw [lcutA_none hm];omega
       generalize lcutA r1 63=r2 at *
       have k2:r2.length≤(lcutA r2 47).length+(if 47∈r2 then r2.drop (lfind r2 47) else [47]).length:=by
        split
        · unfold lcutA;simp;omega
        · rename_i hm;rw [lcutA_none hm];omega
       generalize (if 47∈r2 then r2.drop (lfind r2 47) else [47])=pa at *
       generalize lcutA r2 47=r3 at *
       have k3:r3.length≤(if 64∈r3 then lcutB r3 64 else r3).length+1+(if 64∈r3 then lcutA r3 64 else []).length:=by
        split
        · rename_i hm;rw [lcut_in hm];omega
        · simp
       generalize (if 64∈r3 then lcutB r3 64 else r3)=r4 at *
       generalize (if 64∈r3 then lcutA r3 64 else [])=us at *
       cases hp:lport sc r4 with
       | none=>rw [hp] at h;cases h
       | some p=>
        rw [hp] at hlen
        have k4:=lport_len hp
        have k5:=llow_len (lcutA r4 58)
        dsimp only at hlen
        unfold ltext at hlen
        dsimp only at hlen
        rw [if_pos hsc] at hlen
        simp only [List.length_append,List.length_cons,List.length_nil] at hlen
        have q1:us.length≤(if us=[] then [] else us++[64]).length:=by split<;>simp_all
        have q2:(if 63∈r1 then 1+(lcutB r1 63).length else 0)≤(if decide (63∈r1)=true then 63 :: lcutB r1 63 else []).length:=by
         by_cases hm:63∈r1<;>simp [hm];omega
        have q3:(if 35∈r0 then 1+(lcutB r0 35).length else 0)≤(if decide (35∈r0)=true then 35 :: lcutB r0 35 else []).length:=by
         by_cases hm:35∈r0<;>simp [hm];omega
        omega
     · cases h
   · rename_i hsc
     rw [if_neg hsc] at hw
     exact absurd hw hsc
 · cases h
theorem iclean_lclean (t:Tx):iclean t=lclean t:=by
 unfold iclean lclean
 by_cases hb:((lparse t).2 && lweb (lparse t).1.scheme)=true
 · have h:=hb
   simp only [Bool.and_eq_true] at h
   have hl:=lparse_len h.1 h.2
   rw [if_pos (by omega),if_pos hb,if_pos hb]
   rw [itext_eq]
   exact (lurlOK_port (lparse_ok h.1):0≤(lparse t).1.port)
 · rw [if_neg hb,if_neg hb];split<;>rfl
def sReportTo:Tx:=[114,101,112,111,114,116,45,116,111]
def sReportUri:Tx:=[114,101,112,111,114,116,45,117,114,105]
def lwordOK (w:Tx):Bool:=decide (w≠[]) && w.all fun c=>!decide (c.toNat=32∨c.toNat=9∨c.toNat=59)
def lruleOK (r:LRule):Bool:=lrname r.name && decide (r.words.length≤8) && r.words.all lwordOK
def lwordsOf (l:List LRule) (name:Tx):List Tx:=match l.find? (fun r=>decide (r.name=name)) with
 | some r=>r.words
 | none=>[]
def headWord (ws:List Tx):Tx:=match ws with
 | w :: _=>if lword w then w else []
 | []=>[]
def lrepTo (l:List LRule):Tx:=headWord (lwordsOf l sReportTo)
def uriStep (acc:List Tx) (w:Tx):List Tx:=match lclean w with
 | some u=>if u∉acc∧acc.length < 4 then acc++[u] else acc
 | none=>acc
def luris (l:List LRule):List Tx:=(lwordsOf l sReportUri).foldl uriStep []
theorem uriStep_len (acc:List Tx) (w:Tx) (h:acc.length≤4):(uriStep acc w).length≤4:=by
 unfold uriStep
 split
 · split
   · simp;omega
   · exact h
 · exact h
theorem uris_len:∀ (l:List Tx) (acc:List Tx),acc.length≤4→(l.foldl uriStep acc).length≤4
 | [],_,h=>h
 | w :: l,acc,h=>uris_len l _ (uriStep_len acc w h)
def lpolicyOK (p:LPolicy):Bool:=
 decide (p.rules.length≤8) && (p.rules.all lruleOK && luniq (p.rules.map fun r=>r.name)) && (decide (p.reportTo=lrepTo p.rules) && decide (p.uris=luris p.rules))
def lgroupOK (g:LGroup):Bool:=
 lword g.name && decide (1≤g.age∧g.age≤100) && decide (1≤g.targets.length∧g.targets.length≤4) && (g.targets.all ltargetOK && luniq (g.targets.map fun t=>t.url))
end Go.KP
end
section
namespace Go.KP
def mkL {α:Type} (f:Nat→α) (w n k:Nat):List α:=(List.range n).map fun j=>f (k+w*j)
theorem mkL_len {α:Type} (f:Nat→α) (w n k:Nat):(mkL f w n k).length=n:=by simp [mkL]
theorem mkL_at {α:Type} {f:Nat→α} {w n k j:Nat} (h:j < n):(mkL f w n k)[j]'(by rw [mkL_len];exact h)=f (k+w*j):=by simp [mkL]
theorem mkL_succ {α:Type} (f:Nat→α) (w i k:Nat):mkL f w (i+1) k=mkL f w i k++[f (k+w*i)]:=by simp [mkL,List.range_succ]
def mkU {α:Type} (f:Nat→α) (w:Nat) (l:List α) (k i:Nat):List α:=mkL f w i k++l.drop i
theorem mkU_zero {α:Type} (f:Nat→α) (w:Nat) (l:List α) (k:Nat):mkU f w l k 0=l:=by simp [mkU,mkL]
theorem mkU_all {α:Type} (f:Nat→α) (w:Nat) (l:List α) (k:Nat):mkU f w l k l.length=mkL f w l.length k:=by simp [mkU]
theorem mkU_len {α:Type} (f:Nat→α) (w:Nat) (l:List α) (k i:Nat) (h:i≤l.length):(mkU f w l k i).length=l.length:=by simp [mkU,mkL_len];omega
theorem mkU_set {α:Type} (f:Nat→α) (w:Nat) (l:List α) (k i:Nat) (h:i < l.length):(mkU f w l k i).set i (f (k+w*i))=mkU f w l k (i+1):=by
 unfold mkU
 rw [List.set_append_right _ _ (by rw [mkL_len];exact Nat.le_refl _),mkL_len,Nat.sub_self,List.drop_eq_getElem_cons h,List.set_cons_zero,mkL_succ,List.append_assoc]
 rfl
def mkTarget (k:Nat):LTarget:=⟨lmk k,((k+1:Nat):Int),((k+2:Nat):Int)⟩
theorem tunlike_uniq (l:List LTarget):tunlike l=luniq (l.map fun t=>t.url):=by
 have key:∀ i,i≤l.length→tunlike (l.take i)=luniq ((l.map fun t=>t.url).take i):=by
  intro i
  induction i with
  | zero=>intro _;simp [tunlike,luniq,lunlike]
  | succ i ih=>
   intro hi
   rw [tunlike_take l i (by omega),luniq_take _ i (by simp;omega),ih (by omega)]
   simp only [List.getElem_map,List.map_take]
 have:=key l.length (Nat.le_refl _)
 rw [List.take_length,List.take_of_length_le (by simp)] at this
 exact this
end Go.KP
end
section
namespace Go.KP
def allN (n:Nat) (p:Nat→Bool):Bool:=(List.range n).all p
theorem allN_zero (p:Nat→Bool):allN 0 p=true:=rfl
theorem allN_succ (p:Nat→Bool) (n:Nat):allN (n+1) p=(allN n p && p n):=by simp [allN,List.range_succ]
theorem allN_bad {p:Nat→Bool} {n i:Nat} (hi:i < n) (h:p i=false):allN n p=false:=by
 unfold allN
 rw [List.all_eq_false]
 exact ⟨i,List.mem_range.2 hi,by simp [h]⟩
def lreportOK (r:LReport):Bool:=decide (1≤r.id∧r.id≤1000000) && decide (0≤r.born∧r.born≤1000000) && decide (0≤r.tries∧r.tries≤3) && decide (1≤r.body.length∧r.body.length≤8000)
def repAt (l:List LReport) (i:Nat):Bool:=match l[i]? with
 | some r=>lreportOK r && (match i with
  | 0=>true
  | j+1=>match l[j]? with
   | some s=>decide (s.id < r.id) && decide (s.born≤r.born)
   | none=>true)
 | none=>true
theorem repAt_zero {l:List LReport} (h:0 < l.length):repAt l 0=lreportOK l[0]:=by
 unfold repAt
 rw [List.getElem?_eq_getElem h]
 simp
theorem repAt_succ {l:List LReport} {j:Nat} (h:j+1 < l.length):repAt l (j+1)=(lreportOK l[j+1] && (decide (l[j].id < l[j+1].id) && decide (l[j].born≤l[j+1].born))):=by
 have e:=List.getElem?_eq_getElem (show j < l.length by omega)
 simp only [repAt,List.getElem?_eq_getElem h,e]
def recAt (l:List Tx) (i:Nat):Bool:=match l[i]? with
 | some t=>decide (1≤t.length∧t.length≤8000) && decide (t∉l.take i)
 | none=>true
theorem recAt_eq {l:List Tx} {i:Nat} (h:i < l.length):recAt l i=(decide (1≤l[i].length∧l[i].length≤8000) && decide (l[i]∉l.take i)):=by
 unfold recAt
 rw [List.getElem?_eq_getElem h]
def lqueueOK (q:LQueue):Bool:=decide (q.items.length≤5) && decide (q.recent.length≤6) && (allN q.items.length (repAt q.items) && allN q.recent.length (recAt q.recent))
def lchannelOK (next now:Int) (c:LChannel):Bool:=lgroupOK c.group && lpeersOK c.peers && decide (c.peers.map (fun p=>p.target)=c.group.targets) && lqueueOK c.queue && c.queue.items.all fun r=>decide (r.id < next) && decide (r.born≤now)
def idAt (next:Int) (l:List Int) (i:Nat):Bool:=match l[i]? with
 | some r=>decide (1≤r∧r≤next - 1) && (match i with
  | 0=>true
  | j+1=>match l[j]? with
   | some s=>decide (s < r)
   | none=>true)
 | none=>true
theorem idAt_zero {next:Int} {l:List Int} (h:0 < l.length):idAt next l 0=decide ((1:Int)≤l[0]∧l[0]≤next - 1):=by
 unfold idAt
 rw [List.getElem?_eq_getElem h]
 simp
theorem idAt_succ {next:Int} {l:List Int} {j:Nat} (h:j+1 < l.length):idAt next l (j+1)=(decide ((1:Int)≤l[j+1]∧l[j+1]≤next - 1) && decide (l[j] < l[j+1])):=by
 have e:=List.getElem?_eq_getElem (show j < l.length by omega)
 simp only [idAt,List.getElem?_eq_getElem h,e]
def lwireOK (next now:Int) (w:LWire):Bool:=decide (0≤w.at_∧w.at_≤now) && decide (100≤w.status∧w.status≤599) && lword w.group && decide (w.url.length≤100) && decide (1≤w.ids.length∧w.ids.length≤3) && decide (w.body.length≤65536) && allN w.ids.length (idAt next w.ids)
def entAt (next now:Int) (l:List LEntry) (i:Nat):Bool:=match l[i]? with
 | some x=>decide (1≤x.kind∧x.kind≤7) && decide (1≤x.id∧x.id≤next - 1) && decide ((match i with | 0=>0 | j+1=>match l[j]? with | some y=>y.at_ | none=>0)≤x.at_∧x.at_≤now)
 | none=>true
def entLo (l:List LEntry):Nat→Int
 | 0=>0
 | j+1=>match l[j]? with | some y=>y.at_ | none=>0
theorem entAt_eq {next now:Int} {l:List LEntry} {i:Nat} (h:i < l.length):entAt next now l i=(decide (1≤l[i].kind∧l[i].kind≤7) && decide (1≤l[i].id∧l[i].id≤next - 1) && decide (entLo l i≤l[i].at_∧l[i].at_≤now)):=by
 unfold entAt
 rw [List.getElem?_eq_getElem h]
 cases i<;>rfl
theorem entLo_succ {l:List LEntry} {i:Nat} (h:i < l.length):entLo l (i+1)=l[i].at_:=by
 simp only [entLo,List.getElem?_eq_getElem h]
theorem entLo_nonneg {next now:Int} {l:List LEntry}:∀ {i:Nat},i≤l.length→allN i (entAt next now l)=true→0≤entLo l i
 | 0,_,_=>Int.le_refl 0
 | i+1,hi,h=>by
  rw [allN_succ,Bool.and_eq_true] at h
  have ih:=entLo_nonneg (i:=i) (by omega) h.1
  have h2:=h.2
  rw [entAt_eq (by omega)] at h2
  simp only [Bool.and_eq_true,decide_eq_true_eq] at h2
  rw [entLo_succ (by omega)]
  omega
def chanAt (p:LPipe) (i:Nat):Bool:=match p.channels[i]? with
 | some c=>decide (c.group.name∉(p.channels.map fun c=>c.group.name).take i) && lchannelOK p.next p.now c
 | none=>true
theorem chanAt_eq {p:LPipe} {i:Nat} (h:i < p.channels.length):chanAt p i=(decide (p.channels[i].group.name∉(p.channels.map fun c=>c.group.name).take i) && lchannelOK p.next p.now p.channels[i]):=by
 unfold chanAt
 rw [List.getElem?_eq_getElem h]
def lpipeOK (p:LPipe):Bool:=decide (p.channels.length≤5) && lpolicyOK p.policy && decide (0≤p.now∧p.now≤1000000) && decide (1≤p.next∧p.next≤1000000) && decide (p.log.length≤4096) && decide (p.wires.length≤4096) &&
 (allN p.channels.length (chanAt p) && allN p.log.length (entAt p.next p.now p.log) && p.wires.all (lwireOK p.next p.now))
theorem lqueueOK_rep {q:LQueue} {i:Nat} (hi:i < q.items.length) (h:repAt q.items i=false):lqueueOK q=false:=by
 unfold lqueueOK;rw [allN_bad hi h];simp
theorem lqueueOK_rec {q:LQueue} {i:Nat} (hi:i < q.recent.length) (h:recAt q.recent i=false):lqueueOK q=false:=by
 unfold lqueueOK;rw [allN_bad hi h];simp
end Go.KP
end
section
namespace Go.PW
open Go.RowKit Go.KP
theorem u8_eq {a b:UInt8}:((a.toNat:Int)=(b.toNat:Int))↔a=b:=by
 constructor
 · intro h;exact UInt8.toNat_inj.1 (by omega)
 · rintro rfl;rfl
def rvb (c:UInt8):RV:=.int .u8 c.toNat
def tx (t:Tx):RV:=.str (bs t)
def num (n:Int):RV:=.int .i64 n
theorem bytesOf_rvb (l:Tx):bytesOf (l.map rvb)=bs l:=by
 unfold bytesOf bs
 congr 1
 congr 1
 rw [List.map_map]
 have:(RV.byte ∘ rvb)=id:=by
  funext c
  simp [rvb,RV.byte]
 rw [this];simp
theorem wrap_u8 {x:Int} (h1:0≤x) (h2:x < 256):IntKind.u8.wrap x=x:=by
 unfold IntKind.wrap
 simp [IntKind.bits,IntKind.signed]
 omega
def rvUrl (u:LUrl):RV:=.agg [tx u.scheme,tx u.user,tx u.host,num u.port,tx u.path,tx u.query,tx u.frag,.bool u.hasQ,.bool u.hasF]
end Go.PW
end
section
namespace Go.PW
open Go.RowKit Go.KP
variable [GF]
theorem plL_vals (φ:Nat→Option RV) (rs:List RV):PV.plL (PV.frzL φ (rs.map .val))=rs.map .val:=by
 induction rs with
 | nil=>rfl
 | cons r rs ih=>simp [PV.frzL,PV.plL,PV.frz,PV.pl,ih]
theorem resP_ct {st:St} {s n t id:Nat} {rs:List RV} {r:RV} (h1:st.env s=.ptr id 0) (h2:st.mem id=.box (rs.map .val)) (h3:rs.length=n) (h4:0 < n) (h5:st.env t=.val r) :
 resP [.c s true n,.t t] st.fin=some (.tup [mkAgg (rs.map .val),.val r]):=by
 have e1:st.fin.env s=.ptr id 0:=by rw [fin_env,h1];simp [PV.frz,frzOf,h2,PV.pl]
 have e2:st.fin.mem id=.box (rs.map .val):=by
  simp only [St.fin,St.freeze,h2,MObj.pl,plL_vals]
 have e3:st.fin.env t=.val r:=by rw [fin_env,h5];rfl
 simp only [resP,resVs,resV,e1,e2,e3]
 simp only [List.length_map,h3,Nat.zero_add,List.drop_zero,if_true]
 rw [if_pos ⟨by omega,h4⟩,List.take_of_length_le (by simp [h3])]
 rfl
theorem resP_c {st:St} {s n id:Nat} {rs:List RV} (h1:st.env s=.ptr id 0) (h2:st.mem id=.box (rs.map .val)) (h3:rs.length=n) (h4:0 < n) :
 resP [.c s true n] st.fin=some (mkAgg (rs.map .val)):=by
 have e1:st.fin.env s=.ptr id 0:=by rw [fin_env,h1];simp [PV.frz,frzOf,h2,PV.pl]
 have e2:st.fin.mem id=.box (rs.map .val):=by
  simp only [St.fin,St.freeze,h2,MObj.pl,plL_vals]
 simp only [resP,resV,e1,e2]
 simp only [List.length_map,h3,Nat.zero_add,List.drop_zero,if_true]
 rw [if_pos ⟨by omega,h4⟩,List.take_of_length_le (by simp [h3])]
def urlRs (u:LUrl):List RV:=[tx u.scheme,tx u.user,tx u.host,num u.port,tx u.path,tx u.query,tx u.frag,.bool u.hasQ,.bool u.hasF]
def urlCells (u:LUrl):List PV:=[.val (tx u.scheme),.val (tx u.user),.val (tx u.host),.val (num u.port),.val (tx u.path),.val (tx u.query),.val (tx u.frag),.val (.bool u.hasQ),.val (.bool u.hasF)]
theorem urlCells_eq (u:LUrl):urlCells u=(urlRs u).map .val:=rfl
def parseRes (r:LUrl×Bool):PV:=.tup [.val (rvUrl r.1),.val (.bool r.2)]
theorem mkAgg_url (u:LUrl):mkAgg ((urlRs u).map .val)=.val (rvUrl u):=by simp [urlRs,mkAgg,allVal,rvUrl]
theorem resP_url {st:St} {s t id:Nat} {u:LUrl} {b:Bool} (h1:st.env s=.ptr id 0) (h2:st.mem id=.box (urlCells u)) (h5:st.env t=.val (.bool b)):resP [.c s true 9,.t t] st.fin=some (parseRes (u,b)):=by
 rw [resP_ct (n:=9) (rs:=urlRs u) h1 (by rw [h2,urlCells_eq]) rfl (by omega) h5,mkAgg_url]
 rfl
def rvTarget (x:LTarget):RV:=.agg [tx x.url,num x.prio,num x.weight]
def rvPeer (x:LPeer):RV:=.agg [tx x.target.url,num x.target.prio,num x.target.weight,num x.fails,num x.retry,.bool x.gone]
def rvPeers (l:List LPeer):RV:=.list 6 (l.map rvPeer)
theorem callS_pv {P:Program} {st:St} {Ke:Kx (PV→St→Prop)} {kx:Kx (RV→St→Prop)} {d f ps as p} (ha:avsOf st.mem ps=some as) (hb:boxIds ps=[]) (hs:∀ b,p.shift b=p) (ho:p.ownLt 0=true) (hr:ps.all PV.noOwn=true∨p.flat=true) (h:CallOK P f as (.ret p []) []) (hK:Ke.k p st):KC P st d f ps (Ke:=Ke) (kx:=kx):=by
 refine callS_mono (K:=fun q st'=>q=p∧st'=st) (kx:=fun _ _=>False) (fun p s hh=>by obtain ⟨rfl,rfl⟩:=hh;exact hK) (fun _ _ hh=>hh.elim) (callX_callS ?_)
 unfold callX
 rw [ha]
 exact ⟨hb,p,h,hs,ho,hr,rfl⟩
theorem callS_two {P:Program} {st:St} {Ke:Kx (PV→St→Prop)} {kx:Kx (RV→St→Prop)} {d f ps as a b} (ha:avsOf st.mem ps=some as) (hb:boxIds ps=[]) (hr:ps.all PV.noOwn=true∨(PV.tup [.val a,.val b]).flat=true) (h:CallOK P f as (.ret (.tup [.val a,.val b]) []) []) (hK:Ke.k (.tup [.val a,.val b]) st):KC P st d f ps (Ke:=Ke) (kx:=kx):=
 callS_pv ha hb (fun _=>rfl) rfl hr h hK
theorem callS_three {P:Program} {st:St} {Ke:Kx (PV→St→Prop)} {kx:Kx (RV→St→Prop)} {d f ps as a b c} (ha:avsOf st.mem ps=some as) (hb:boxIds ps=[]) (hr:ps.all PV.noOwn=true∨(PV.tup [.val a,.val b,.val c]).flat=true) (h:CallOK P f as (.ret (.tup [.val a,.val b,.val c]) []) []) (hK:Ke.k (.tup [.val a,.val b,.val c]) st):KC P st d f ps (Ke:=Ke) (kx:=kx):=
 callS_pv ha hb (fun _=>rfl) rfl hr h hK
end Go.PW
end
section
namespace Go.PW
open Go.RowKit Go.KP
variable [GF]
def RV.sv:RV→Option Value
 | .str s=>some (.string s)
 | .int k n=>some (.int k n)
 | .bool b=>some (.bool b)
 | _=>none
def svs:List RV→Option (List Value)
 | []=>some []
 | r :: rs=>match r.sv,svs rs with
  | some v,some vs=>some (v :: vs)
  | _,_=>none
theorem sv_rep {L:Nat→Prop} {w:World} {r:RV} {v u:Value} (h:r.sv=some v) (hr:RepR L w r u):u=v:=by
 cases hr with
 | bool b=>simpa [RV.sv] using h
 | int k n=>simpa [RV.sv] using h
 | str s=>simpa [RV.sv] using h
 | _=>simp [RV.sv] at h
theorem sv_self {L:Nat→Prop} {w:World} {r:RV} {v:Value} (h:r.sv=some v):RepR L w r v:=by
 cases r with
 | bool b=>simp [RV.sv] at h;subst h;exact .bool b
 | int k n=>simp [RV.sv] at h;subst h;exact .int k n
 | str s=>simp [RV.sv] at h;subst h;exact .str s
 | _=>simp [RV.sv] at h
theorem args_sv {L:Nat→Prop} {w:World}:∀ {rs:List RV} {vals vs:List Value} {ms:List Nat},svs rs=some vals→ArgsRep L w (rs.map .val) vs ms→vs=vals∧ms=[]
 | [],vals,vs,ms,h,hr=>by
  simp [svs] at h;subst h
  cases hr;exact ⟨rfl,rfl⟩
 | r :: rs,vals,vs,ms,h,hr=>by
  rw [List.map_cons] at hr
  cases hr with
  | cons _ _ v vs' ms1 ms2 h1 h2=>
   cases h1 with
   | val _ _ h1=>
    simp only [svs] at h
    split at h
    · rename_i v' vs'' e1 e2
      obtain ⟨rfl,rfl⟩:=args_sv e2 h2
      have:=sv_rep e1 h1
      subst this
      have:=Option.some.inj h
      exact ⟨this,rfl⟩
    · cases h
theorem memInv_none {F:Ctx} {γ:Nat→Value} {w:World}:MemInv F γ (rowsMem []) w:=
 ⟨fun id cs h=>by simp [rowsMem] at h,fun id E sz xs h=>by simp [rowsMem] at h,fun id E sz n c h=>by simp [rowsMem] at h,fun id s clk m h=>by simp [rowsMem] at h,fun id id' b h=>by simp [rowsMem,MObj.live] at h⟩
theorem callOK_of {P:Program} {f:Nat} {rs:List RV} {vals:List Value} {p:PV} {v:Value} (ha:svs rs=some vals) (hp:∀ γ L w,RepP γ L w p v)
 (h:∀ L w,Globs L w→GBlk L w→Calls P f vals.toArray w fun e w'=>e=.returned v∧Below w.heap.size w w'):CallOK P f (rs.map .val) (.ret p []) []:=by
 intro L w vs ms hL hgl hgb hargs hnd
 obtain ⟨rfl,rfl⟩:=args_sv ha hargs
 refine (h L w hgl hgb).mono fun e w' ⟨he,hb⟩=>?_
 exact ⟨Outside.of_below hb,v,fun _=>undef,he,hp _ _ _,memInv_none,rfl,fun i b cells h1 h2=>by simp at h1⟩
theorem callOK_one {P:Program} {f:Nat} {rs:List RV} {vals:List Value} {r:RV} {v:Value} (ha:svs rs=some vals) (hv:r.sv=some v)
 (h:∀ L w,Globs L w→GBlk L w→Calls P f vals.toArray w fun e w'=>e=.returned v∧Below w.heap.size w w'):CallOK P f (rs.map .val) (.ret (.val r) []) []:=
 callOK_of ha (fun γ L w=>.val _ _ (sv_self hv)) h
theorem svs_length:∀ {rs:List RV} {vals:List Value},svs rs=some vals→vals.length=rs.length
 | [],vals,h=>by simp [svs] at h;subst h;rfl
 | r :: rs,vals,h=>by
  simp only [svs] at h
  split at h
  · rename_i v vs e1 e2
    have:=svs_length e2
    have h:=Option.some.inj h
    subst h;simp [this]
  · cases h
theorem svs_getD {L:Nat→Prop} {w:World}:∀ {rs:List RV} {vals:List Value},svs rs=some vals→∀ i,i < rs.length→RepR L w (rs.getD i .nilptr) (vals.getD i undef)
 | [],vals,h,i,hi=>by simp at hi
 | r :: rs,vals,h,i,hi=>by
  simp only [svs] at h
  split at h
  · rename_i v vs e1 e2
    have h:=Option.some.inj h
    subst h
    cases i with
    | zero=>simpa using sv_self e1
    | succ i=>simpa using svs_getD e2 i (by simpa using hi)
  · cases h
theorem callOK_tup {P:Program} {f:Nat} {rs:List RV} {vals:List Value} {qs:List RV} {us:List Value} (ha:svs rs=some vals) (hv:svs qs=some us)
 (h:∀ L w,Globs L w→GBlk L w→Calls P f vals.toArray w fun e w'=>e=.returned (.tuple us.toArray)∧Below w.heap.size w w'):CallOK P f (rs.map .val) (.ret (.tup (qs.map .val)) []) []:=
 callOK_of ha (fun γ L w=>.tup _ _ (by simp [svs_length hv]) fun i hi=>by
  have hi':i < qs.length:=by simpa using hi
  have e1:(qs.map PV.val).getD i .undef=.val (qs.getD i .nilptr):=by simp [List.getD_eq_getElem?_getD,List.getElem?_eq_getElem hi']
  have e2:us.toArray.getD i undef=us.getD i undef:=by simp [List.getD_eq_getElem?_getD,Array.getD_eq_getD_getElem?]
  rw [e1,e2]
  exact .val _ _ (svs_getD hv i hi')) h
theorem below_same {w w':World} (h:w'=w):Below w.heap.size w w':=by subst h;exact Below.refl _ _
end Go.PW
end
section
namespace Go.PW
open Go.RowKit Go.KP
variable [GF]
def SameB (M:Nat→MObj):List Nat→List (List RV)→Prop
 | [],[]=>True
 | id :: ids,b :: bs=>M id=.box (b.map .val)∧SameB M ids bs
 | _,_=>False
def BoxesAt (M:Nat→MObj):Nat→List (List RV)→Prop
 | _,[]=>True
 | k,b :: bs=>M (900+k)=.box (b.map .val)∧BoxesAt M (k+1) bs
theorem setBoxes_same:∀ {M:Nat→MObj} {ids:List Nat} {B:List (List RV)},SameB M ids B→setBoxes M ids B=M
 | M,[],[],_=>rfl
 | M,id :: ids,b :: bs,h=>by
  have e:upd id (.box (b.map .val)) M=M:=by
   funext x
   by_cases hx:x=id
   · subst hx;rw [upd_eq,h.1]
   · rw [upd_ne _ _ _ _ hx]
  simp only [setBoxes]
  rw [e]
  exact setBoxes_same h.2
 | M,[],_ :: _,h=>h.elim
 | M,_ :: _,[],h=>h.elim
theorem sameB_len:∀ {M:Nat→MObj} {ids:List Nat} {B:List (List RV)},SameB M ids B→B.length=ids.length
 | M,[],[],_=>rfl
 | M,id :: ids,b :: bs,h=>by simp [sameB_len h.2]
 | M,[],_ :: _,h=>h.elim
 | M,_ :: _,[],h=>h.elim
theorem vals_map (b:List RV):vals? (b.map .val)=some b:=by
 induction b with
 | nil=>rfl
 | cons r b ih=>simp [vals?,ih]
theorem boxesEnd_fin {st:St}:∀ {k:Nat} {B:List (List RV)},BoxesAt st.mem k B→boxesEnd st.fin k B
 | k,[],_=>trivial
 | k,b :: B,h=>by
  have e2:st.fin.mem (900+k)=.box (b.map .val):=by
   simp only [St.fin,St.freeze,h.1,MObj.pl,plL_vals]
  exact ⟨by rw [e2];exact vals_map b,boxesEnd_fin h.2⟩
def RetB (res:List Rs) (p:PV) (B:List (List RV)):PExit→St→Prop
 | .normal,st=>resP res st.fin=some p∧BoxesAt st.mem 0 B
 | .ret,st=>resP res st.fin=some p∧BoxesAt st.mem 0 B
 | _,_=>False
@[simp] theorem RetB_ret {res p B} {st:St}:RetB res p B .ret st=(resP res st.fin=some p∧BoxesAt st.mem 0 B):=by rfl
@[simp] theorem RetB_normal {res p B} {st:St}:RetB res p B .normal st=(resP res st.fin=some p∧BoxesAt st.mem 0 B):=by rfl
theorem call_valB {P:Program} {f:Nat} {c:PC} {res:List Rs} {as:List AV} {p:PV} {B:List (List RV)} (hm:P.follows .mixedOrders=true) (hc:chkFn P f c as.length res=true) (hb:avBoxesL as=B) (hp:∀ ι,p.ren ι=p)
 (h:evalC P c (initSt as) (RetB res p B)):CallOK P f as (.ret p []) B:=by
 refine call_ok hm hc (evalC_mono (fun e s hh=>?_) h)
 have key:resP res s.fin=some p∧BoxesAt s.mem 0 B→∃ st',Le s st'∧FinK res (avBoxesL as).length (.ret p []) B .ret st':=fun hh=>
  ⟨s.fin,(Le.freeze s _).trans (Le.plain _),(by rw [hb]),⟨⟨id,by rw [hp];exact hh.1,fun i j hi=>by simp at hi,fun i r hr=>by simp at hr⟩,boxesEnd_fin hh.2⟩⟩
 cases e with
 | normal=>exact key hh
 | ret=>exact key hh
 | exit id=>exact hh.elim
 | pan r=>exact hh.elim
theorem kill_nothing (st:St):st.kill (fun _=>false)=st:=by
 cases st with
 | mk env mem=>
  simp only [St.kill,PV.kill_none]
  congr 1
  funext x
  cases mem x with
  | dead=>rfl
  | row E sz xs=>rfl
  | box cs=>simp [MObj.kill,PV.killL_none]
  | prow E sz n c=>simp [MObj.kill,PV.kill_none]
  | map s clk m => 
   have:(fun k=>(m k).map fun p=>(p.1.kill fun _=>false,p.2))=m:=by funext k;cases m k<;>simp [PV.kill_none]
   simp only [MObj.kill,this];rfl
theorem callS_valB {P:Program} {st:St} {Ke:Kx (PV→St→Prop)} {kx:Kx (RV→St→Prop)} {d f ps as r ids B} (ha:avsOf st.mem ps=some as) (hb:boxIds ps=ids) (hn:ids.Nodup) (hlt:ids.all (· < rowBase d)=true) (hB:SameB st.mem ids B) (hr:ps.all PV.noOwn=true)
 (h:CallOK P f as (.ret (.val r) []) B) (hK:Ke.k (.val r) st):KC P st d f ps (Ke:=Ke) (kx:=kx):=by
 unfold KC
 refine .inl ?_
 unfold callS0
 rw [ha]
 refine ⟨by rw [hb];exact hn,by rw [hb];exact hlt,.ret (.val r) [],B,h,by rw [hb];exact sameB_len hB,rfl,.inl hr,?_⟩
 have e:(fun i=>decide (rowBase d≤i) && decide (i < rowBase d+([]:List Row).length))=fun _=>false:=by
  funext i
  simp only [List.length_nil,Nat.add_zero,Bool.and_eq_false_imp,decide_eq_true_eq,decide_eq_false_iff_not]
  omega
 rw [e,kill_nothing]
 simp only [setRows,hb]
 rw [setBoxes_same hB]
 exact hK
end Go.PW
end
section
namespace Go.PW
open Go.RowKit Go.KP
def upTo {α:Type} (r:α→RV) (z:RV) (l:List α) (i:Nat):List RV:=(l.take i).map r++List.replicate (l.length - i) z
theorem upTo_zero {α:Type} (r:α→RV) (z:RV) (l:List α):upTo r z l 0=List.replicate l.length z:=by simp [upTo]
theorem upTo_all {α:Type} (r:α→RV) (z:RV) (l:List α):upTo r z l l.length=l.map r:=by simp [upTo]
theorem upTo_len {α:Type} (r:α→RV) (z:RV) (l:List α) (i:Nat) (h:i≤l.length):(upTo r z l i).length=l.length:=by simp [upTo];omega
theorem upTo_set {α:Type} (r:α→RV) (z:RV) (l:List α) (i:Nat) (h:i < l.length):(upTo r z l i).set i (r l[i])=upTo r z l (i+1):=by
 unfold upTo
 have h1:l.length - i=(l.length - (i+1))+1:=by omega
 have h2:((l.take i).map r).length=i:=by simp;omega
 rw [h1,List.replicate_succ,List.set_append_right _ _ (by omega),h2,Nat.sub_self,List.set_cons_zero]
 rw [List.take_add_one,List.getElem?_eq_getElem h,List.map_append,List.append_assoc]
 rfl
theorem upTo_at {α:Type} (r:α→RV) (z:RV) (l:List α) (i:Nat) (h:i < l.length):(upTo r z l i)[i]?.getD .nilptr=z:=by
 unfold upTo
 have h1:l.length - i=(l.length - (i+1))+1:=by omega
 have h2:((l.take i).map r).length=i:=by simp;omega
 rw [h1,List.replicate_succ,List.getElem?_append_right (by omega),h2]
 simp
def cleanRes (o:Option Tx):PV:=.tup [.val (tx (o.getD [])),.val (.bool o.isSome)]
theorem resP_cz [GF] {st:St} {s n id:Nat} {cs:List PV} {rs:List RV} (h1:st.env s=.ptr id 0) (h2:st.mem id=.box cs) (hz:PV.plL (PV.frzL (frzOf st fun _=>true) cs)=rs.map .val) (h3:rs.length=n) (h4:0 < n) :
 resP [.c s true n] st.fin=some (mkAgg (rs.map .val)):=by
 have e1:st.fin.env s=.ptr id 0:=by rw [fin_env,h1];simp [PV.frz,frzOf,h2,PV.pl]
 have e2:st.fin.mem id=.box (rs.map .val):=by
  simp only [St.fin,St.freeze,h2,MObj.pl]
  rw [hz]
 simp only [resP,resV,e1,e2]
 simp only [List.length_map,h3,Nat.zero_add,List.drop_zero,if_true]
 rw [if_pos ⟨by omega,h4⟩,List.take_of_length_le (by simp [h3])]
def ownOr {α:Type} (sz id:Nat):List α→PV
 | []=>.emp sz
 | _ :: _=>.own id
def rowOr {α:Type} (E sz:Nat) (r:α→RV):List α→MObj
 | []=>.dead
 | x :: xs=>.row E sz ((x :: xs).map r)
@[simp] theorem ownOr_nil {α:Type} (sz id:Nat):ownOr sz id ([]:List α)=.emp sz:=rfl
@[simp] theorem ownOr_cons {α:Type} (sz id:Nat) (x:α) (xs:List α):ownOr sz id (x :: xs)=.own id:=rfl
@[simp] theorem rowOr_nil {α:Type} (E sz:Nat) (r:α→RV):rowOr E sz r []=.dead:=rfl
@[simp] theorem rowOr_cons {α:Type} (E sz:Nat) (r:α→RV) (x:α) (xs:List α):rowOr E sz r (x :: xs)=.row E sz (r x :: xs.map r):=rfl
theorem Le.mkD [GF] {st:St} (le:List (Nat×PV)) (lm:List (Nat×MObj)) (h1:∀ kp∈le,st.env kp.1=kp.2) (h2:∀ kp∈lm,kp.2=.dead∨st.mem kp.1=kp.2):Le st ⟨envOf le,memOf lm⟩:=by
 refine Le.drop (fun i=>?_) (fun x=>?_)
 · show memOf lm i=st.mem i∨memOf lm i=.dead
   induction lm with
   | nil=>exact .inr rfl
   | cons kp lm ih=>
    obtain ⟨k,o⟩:=kp
    simp only [memOf]
    split
    · rename_i e;subst e
      rcases h2 (i,o) (by simp) with h | h
      · exact .inr h
      · exact .inl h.symm
    · exact ih fun kp hkp=>h2 kp (by simp [hkp])
 · show Wk (st.env x) (envOf le x)
   induction le with
   | nil=>exact .undef _
   | cons kp le ih=>
    obtain ⟨k,p⟩:=kp
    simp only [envOf]
    split
    · rename_i e;subst e;rw [h1 (x,p) (by simp)];exact .refl p
    · exact ih fun kp hkp=>h1 kp (by simp [hkp])
@[simp] theorem rvTarget_len (x:LTarget):(rvTarget x).cells.length=3:=rfl
@[simp] theorem rvPeer_len (x:LPeer):(rvPeer x).cells.length=6:=rfl
def rvGroup (x:LGroup):RV:=.agg [tx x.name,num x.age,.list 3 (x.targets.map rvTarget)]
@[simp] theorem rvGroup_len (x:LGroup):(rvGroup x).cells.length=3:=rfl
def rvRule (x:LRule):RV:=.agg [tx x.name,.list 1 (x.words.map tx)]
@[simp] theorem rvRule_len (x:LRule):(rvRule x).cells.length=2:=rfl
def rvPolicy (x:LPolicy):RV:=.agg [tx x.reportTo,.list 1 (x.uris.map tx),.list 2 (x.rules.map rvRule)]
@[simp] theorem rvPolicy_len (x:LPolicy):(rvPolicy x).cells.length=3:=rfl
def rvViolation (x:LViolation):RV:=.agg [tx x.document,tx x.referrer,tx x.blocked,tx x.source,tx x.directive,tx x.sample,num x.line,num x.column,.bool x.redirected]
@[simp] theorem rvViolation_len (x:LViolation):(rvViolation x).cells.length=9:=rfl
def rvReport (x:LReport):RV:=.agg [num x.id,num x.born,num x.tries,tx x.body]
@[simp] theorem rvReport_len (x:LReport):(rvReport x).cells.length=4:=rfl
def rvQueue (x:LQueue):RV:=.agg [.list 4 (x.items.map rvReport),.list 1 (x.recent.map tx)]
@[simp] theorem rvQueue_len (x:LQueue):(rvQueue x).cells.length=2:=rfl
def rvChannel (x:LChannel):RV:=.agg [tx x.group.name,num x.group.age,.list 3 (x.group.targets.map rvTarget),.list 6 (x.peers.map rvPeer),.list 4 (x.queue.items.map rvReport),.list 1 (x.queue.recent.map tx)]
@[simp] theorem rvChannel_len (x:LChannel):(rvChannel x).cells.length=6:=rfl
def rvEntry (x:LEntry):RV:=.agg [num x.kind,num x.id,num x.at_]
@[simp] theorem rvEntry_len (x:LEntry):(rvEntry x).cells.length=3:=rfl
def rvWire (x:LWire):RV:=.agg [num x.at_,num x.status,tx x.group,tx x.url,.list 1 (x.ids.map num),tx x.body,.bool x.lost]
@[simp] theorem rvWire_len (x:LWire):(rvWire x).cells.length=7:=rfl
def rvPipe (x:LPipe):RV:=.agg [.list 6 (x.channels.map rvChannel),tx x.policy.reportTo,.list 1 (x.policy.uris.map tx),.list 2 (x.policy.rules.map rvRule),num x.now,num x.next,.list 3 (x.log.map rvEntry),.list 7 (x.wires.map rvWire)]
@[simp] theorem rvPipe_len (x:LPipe):(rvPipe x).cells.length=8:=rfl
def rvEvent (x:LEvent):RV:=.agg [num x.kind,num x.draw,num x.status,num x.ticks,tx x.text,tx x.name,tx x.violation.document,tx x.violation.referrer,tx x.violation.blocked,tx x.violation.source,tx x.violation.directive,tx x.violation.sample,num x.violation.line,num x.violation.column,.bool x.violation.redirected,.bool x.lost]
@[simp] theorem rvEvent_len (x:LEvent):(rvEvent x).cells.length=16:=rfl
def rvParcel (x:LParcel):RV:=.agg [num x.id,num x.age,tx x.body]
@[simp] theorem rvParcel_len (x:LParcel):(rvParcel x).cells.length=3:=rfl
def rvBox (x:LBox):RV:=.agg [.list 1 (x.ids.map num),.list 1 (x.times.map num),.list 1 (x.bodies.map tx)]
@[simp] theorem rvBox_len (x:LBox):(rvBox x).cells.length=3:=rfl
end Go.PW
end
section
namespace Go.KP
def mkReport (k:Nat):LReport:=⟨(k:Nat),(k+1:Nat),(k+2:Nat),lmk (k+3)⟩
def mkEntry (k:Nat):LEntry:=⟨(k:Nat),(k+1:Nat),(k+2:Nat)⟩
def mkInt (k:Nat):Int:=(k:Nat)
def cntChannel (c:LChannel):Nat:=2+3*c.group.targets.length+6*c.peers.length+4*c.queue.items.length+c.queue.recent.length
def cntRule (r:LRule):Nat:=1+r.words.length
def cntWire (w:LWire):Nat:=6+w.ids.length
theorem zS_len {α:Type} (z:α→Nat) (l:List α):l.length≤zS z l:=Nat.le_add_right _ _
theorem cntChannel_le (c:LChannel):cntChannel c≤2+6*zChannel c:=by
 have h1:=zS_len zTarget c.group.targets
 have h2:=zS_len zPeer c.peers
 have h3:=zS_len zReport c.queue.items
 have h4:=zS_len List.length c.queue.recent
 unfold cntChannel zChannel zGroup zQueue
 omega
theorem cntRule_le (r:LRule):cntRule r≤1+6*zRule r:=by
 have h1:=zS_len List.length r.words
 unfold cntRule zRule
 omega
theorem cntWire_le (w:LWire):cntWire w≤6+6*zWire w:=by
 unfold cntWire zWire
 omega
theorem lsum_cnt {α:Type} (c z:α→Nat) (h:∀ x,c x≤6+6*z x) (l:List α):lsum c l≤6*zS z l:=by
 have:lsum c l≤6*(l.length+lsum z l):=by
  induction l with
  | nil=>simp [lsum]
  | cons x l ih=>simp only [lsum,List.map_cons,List.sum_cons,List.length_cons] at *;have:=h x;omega
 exact this
def cntPipe (p:LPipe):Nat:=lsum cntChannel p.channels+p.policy.uris.length+lsum cntRule p.policy.rules+3*p.log.length+lsum cntWire p.wires
theorem cntPipe_le (p:LPipe):cntPipe p≤6*zPipe p:=by
 have h1:=lsum_cnt cntChannel zChannel (fun x=>by have:=cntChannel_le x;omega) p.channels
 have h2:=lsum_cnt cntRule zRule (fun x=>by have:=cntRule_le x;omega) p.policy.rules
 have h3:=lsum_cnt cntWire zWire (fun x=>by have:=cntWire_le x;omega) p.wires
 have h4:=zS_len List.length p.policy.uris
 unfold cntPipe zPipe zPolicy
 omega
end Go.KP
end
