/- Ea: merged out of KLb, KIa, KIb, KIc, KId, KIe, KIt. -/
import Derived.Test.YtgdapgcjmfeocaaGreatDoorAc
import Derived.Test.YtgdapgcjmfeocaaGreatDoorShelf
import Derived.Test.YtgdapgcjmfeocaaGreatDoorCa
import Derived.Test.YtgdapgcjmfeocaaGreatDoorBa
import Derived.Test.YtgdapgcjmfeocaaGreatDoorProg
import Derived.WalkKit
import Derived.Laws.IdiomStrings
set_option linter.unusedSectionVars false
set_option linter.unusedSimpArgs false
set_option linter.unusedVariables false
set_option maxRecDepth 100000
section
namespace Go.KP
theorem a71 (s:Tx) (c:UInt8):Lib.indexByte s c=if c∈s then (M9 s c:Int) else -1:=by
 induction s with
 | nil=>simp [Lib.indexByte]
 | cons b l ih=>
  unfold Lib.indexByte
  by_cases h:b=c
  · subst h
    simp [M9,List.findIdx_cons]
  · have h':(b == c)=false:=by simpa using h
    have h2:M9 (b :: l) c=M9 l c+1:=by simp [M9,List.findIdx_cons,h']
    rw [h',ih,h2]
    by_cases hm:c∈l
    · have hm':c∈b :: l:=List.mem_cons_of_mem _ hm
      rw [if_pos hm,if_pos hm']
      have:(((M9 l c:Nat):Int) == -1)=false:=by rw [beq_eq_false_iff_ne];omega
      rw [this];simp
    · have hm':¬ c∈b :: l:=by simp [hm];exact fun e=>h e.symm
      rw [if_neg hm,if_neg hm']
      simp
theorem d1a (s:Tx) (c:UInt8):Lib.cut s [c]=(k6 s c,G6 s c,decide (c∈s)):=by
 unfold Lib.cut
 rw [Lib.index_one,a71]
 by_cases h:c∈s
 · rw [if_pos h,if_pos (by omega)]
   simp [k6,G6,h]
 · rw [if_neg h,if_neg (by omega),a1m h,a93 h]
   simp [h]
theorem a8g (s wo:Tx):Lib.containsAny s wo=R7 s wo:=by
 unfold Lib.containsAny
 induction s with
 | nil=>simp [Lib.indexAny,R7]
 | cons b l ih=>
  have e:R7 (b :: l) wo=(decide (b∈wo) || R7 l wo):=rfl
  rw [e,← ih]
  rw [show Lib.indexAny (b :: l) wo=if wo.contains b then 0 else if Lib.indexAny l wo == -1 then -1 else Lib.indexAny l wo+1 from rfl]
  have hc:wo.contains b=decide (b∈wo):=by rw [Bool.eq_iff_iff];simp
  have hge:=Lib.indexAny_ge wo l
  rw [hc]
  by_cases h:b∈wo
  · simp [h]
  · simp only [h,decide_false,Bool.false_or,if_false,Bool.false_eq_true]
    by_cases h2:Lib.indexAny l wo=-1
    · simp [h2]
    · have h2':(Lib.indexAny l wo == -1)=false:=by simpa using h2
      rw [h2']
      simp only [Bool.false_eq_true,if_false]
      rw [decide_eq_true (by omega),decide_eq_true (by omega)]
theorem a8e (n:Nat):Lib.decDigits n=a2z n:=by
 induction n using Nat.strongRecOn with
 | ind n ih=>
  rw [Lib.decDigits]
  by_cases h:n < 10
  · rw [dif_pos h,a1z h]
  · rw [dif_neg h,a4r h,ih _ (by omega)]
theorem c7b (n:Int):Lib.itoa n=a6g n:=by
 unfold Lib.itoa a6g
 split
 · rw [a8e];congr 2;omega
 · rw [a8e]
end Go.KP
namespace Go.Proofs
open Go.PW Go.KP Go.RowKit
class GH extends GF where
 m:Int
 hm:(0,0,Value.int .i64 m)∈gs
 T10:TypeId
 z10:Nat×Nat
 h10:(3,Obj.cells (Lib.pow10Tab.map fun z=>Value.int .u64 z).toArray T10 z10)∈bs
 ts:TypeId
 ps:Value
 hs:(1,0,Value.iface ts ps)∈gs
 tr:TypeId
 pr:Value
 hr:(2,0,Value.iface tr pr)∈gs
variable [GH]
theorem Z0 (t:Tx):(bs t).data.toList=t:=by simp [bs]
theorem b29 {B:Nat} (w:World) (n:Nat):Below B w (w.drewN n):=⟨rfl,rfl,rfl,Nat.le_refl _,fun _ _=>rfl⟩
theorem c48 {B:Nat} (w:World) (os:Array Obj) (h:B≤w.heap.size):Below B w (Go.Sort.grow w os):=
 ⟨rfl,rfl,rfl,by simp [Go.Sort.grow],fun k hk=>by simp [Go.Sort.grow,Array.getElem?_append,Nat.lt_of_lt_of_le hk h]⟩
theorem b50 (t:Tx) (c:UInt8) (ht:t.length < 4294967281):d8 Tryz.prog 238 [.val (tx t),.val (tx [c])] (.ret (.tup [.val (tx (k6 t c)),.val (tx (G6 t c)),.val (.bool (decide (c∈t)))]) []) []:=by
 refine b5v (rs:=[tx t,tx [c]]) (qs:=[tx (k6 t c),tx (G6 t c),.bool (decide (c∈t))]) (vals:=[.string (bs t),.string (bs [c])]) (us:=[.string (bs (k6 t c)),.string (bs (G6 t c)),.bool (decide (c∈t))]) rfl rfl fun L w hgl hgb=>?_
 refine (Tryz.strings_Cut (bs t) (bs [c]) GH.m w (by rw [b9];exact ht) (hgl _ GH.hm).2).mono fun e w' ⟨he,n,hw⟩=>?_
 rw [Z0,Z0,d1a] at he
 exact ⟨he,hw ▸ b29 w n⟩
theorem c2h (t p:Tx):d8 Tryz.prog 241 [.val (tx t),.val (tx p)] (.ret (.tup [.val (tx (if p.isPrefixOf t then t.drop p.length else t)),.val (.bool (p.isPrefixOf t))]) []) []:=by
 refine b5v (rs:=[tx t,tx p]) (qs:=[tx (if p.isPrefixOf t then t.drop p.length else t),.bool (p.isPrefixOf t)]) (vals:=[.string (bs t),.string (bs p)]) (us:=[.string (bs (if p.isPrefixOf t then t.drop p.length else t)),.bool (p.isPrefixOf t)]) rfl rfl fun L w hgl hgb=>?_
 refine (Tryz.strings_CutPrefix (bs t) (bs p) w).mono fun e w' ⟨he,hw⟩=>?_
 rw [Z0,Z0] at he
 exact ⟨he,a5e hw⟩
theorem c2f (t:Tx) (c:UInt8):d8 Tryz.prog 234 [.val (tx t),.val (rvb c)] (.ret (.val (num (if c∈t then (M9 t c:Int) else -1))) []) []:=by
 refine a2r (rs:=[tx t,rvb c]) (vals:=[.string (bs t),.int .u8 c.toNat]) (v:=.int .i64 (if c∈t then (M9 t c:Int) else -1)) rfl rfl fun L w hgl hgb=>?_
 refine (Tryz.strings_IndexByte (bs t) c.toNat w).mono fun e w' ⟨he,hw⟩=>?_
 rw [Z0,Lib.byte_back,a71] at he
 exact ⟨he,a5e hw⟩
theorem c2g (t p:Tx):d8 Tryz.prog 250 [.val (tx t),.val (tx p)] (.ret (.val (.bool (p.isPrefixOf t))) []) []:=by
 refine a2r (rs:=[tx t,tx p]) (vals:=[.string (bs t),.string (bs p)]) (v:=.bool (p.isPrefixOf t)) rfl rfl fun L w hgl hgb=>?_
 refine (Tryz.strings_HasPrefix (bs t) (bs p) w).mono fun e w' ⟨he,hw⟩=>?_
 rw [Z0,Z0] at he
 exact ⟨he,a5e hw⟩
theorem c45 (t:Tx) (c:UInt8):d8 Tryz.prog 251 [.val (tx t),.val (tx [c])] (.ret (.val (.bool (decide (c∈t)))) []) []:=by
 refine a2r (rs:=[tx t,tx [c]]) (vals:=[.string (bs t),.string (bs [c])]) (v:=.bool (decide (c∈t))) rfl rfl fun L w hgl hgb=>?_
 refine (Tryz.strings_Contains_one (bs t) c w).mono fun e w' ⟨he,hw⟩=>?_
 rw [Z0,a71] at he
 have e1:decide (0≤(if c∈t then (M9 t c:Int) else -1))=decide (c∈t):=by
  by_cases h:c∈t
  · rw [if_pos h,decide_eq_true h,decide_eq_true (by omega)]
  · rw [if_neg h,decide_eq_false h];rfl
 rw [e1] at he
 exact ⟨he,a5e hw⟩
theorem b3a {t:Tx} (h:T8 t=true):∀ (j:Nat) b,(bs t).data.toList[j]?=some b→b.toNat < 128:=fun j b hb=>by
 rw [Z0] at hb
 unfold T8 at h
 rw [List.all_eq_true] at h
 have:=h b (List.mem_of_getElem? hb)
 simp at this
 omega
theorem a9t (t wo:Tx) (ht:t.length < 4294967281) (hw:wo.length < 4294967281) (h1:T8 t=true) (h2:T8 wo=true):d8 Tryz.prog 161 [.val (tx t),.val (tx wo)] (.ret (.val (.bool (R7 t wo))) []) []:=by
 refine a2r (rs:=[tx t,tx wo]) (vals:=[.string (bs t),.string (bs wo)]) (v:=.bool (R7 t wo)) rfl rfl fun L w hgl hgb=>?_
 refine (Tryz.strings_ContainsAny_laid (bs t) (bs wo) w (by rw [b9];exact ht) (by rw [b9];exact hw) (b3a h1) (b3a h2)).mono fun e w' ⟨he,hw⟩=>?_
 rw [Z0,Z0,a8g] at he
 exact ⟨he,hw⟩
theorem d1h (n:Int) (h0:-9223372036854775808≤n) (h1:n≤9223372036854775807):d8 Tryz.prog 244 [.val (num n)] (.ret (.val (tx (a6g n))) []) []:=by
 refine a2r (rs:=[num n]) (vals:=[.int .i64 n]) (v:=.string (bs (a6g n))) rfl rfl fun L w hgl hgb=>?_
 have htab:Lib.TabIs Tryz.prog w "internal/strconv.uint64pow10" .u64 Lib.pow10Tab:=by
  unfold Lib.TabIs World.var?
  have e:Tryz.prog.globalNamed "internal/strconv.uint64pow10" = some 3:=by kernel_rfl
  rw [e]
  simp only [Option.bind_some]
  rw [(hgb _ GH.h10).2]
 refine (Tryz.strconv_Itoa n h0 h1 w htab).mono fun e w' ⟨he,k,os,hw⟩=>?_
 rw [c7b] at he
 exact ⟨he,hw ▸ (b29 w k).trans (c48 _ _ (Nat.le_refl _))⟩
end Go.Proofs
end
section
namespace Go.Proofs
open Go.PW Go.KP
attribute [local simp] RV.cells RV.one PV.cells PV.solid PV.one G4 i7 L9 L6 RV.ofCells elems PV.killL
section
variable [GF]
theorem R0 (a lo hi:Int):d8 Tryz.prog 60 [.val (num a),.val (num lo),.val (num hi)] (.ret (.val (.bool (decide (lo≤a∧a≤hi)))) []) []:=by
 refine f7 mixed ok60 rfl (fun _=>rfl) ?_
 unfold ir60
 rw [b6]
 by_cases h:lo≤a
 · simp [d9,i6,j8,b8,d7,num,h]
 · simp [d9,i6,j8,b8,d7,num,h]
theorem i_isNow (n:Int):d8 Tryz.prog 81 [.val (num n)] (.ret (.val (.bool (decide (0≤n∧n≤1000000)))) []) []:=by
 refine f7 mixed ok81 rfl (fun _=>rfl) ?_
 unfold ir81
 rw [b6]
 simp [d9,i6,j8,b8,d7,num]
 refine b7 rfl rfl (.inl rfl) (R0 n 0 1000000) ?_
 simp
theorem b1d (b:Bool) (n:Int):d8 Tryz.prog 59 [.val (.bool b),.val (num n)] (.ret (.val (num (if b then 0 else n))) []) []:=by
 refine f7 mixed ok59 rfl (fun _=>rfl) ?_
 unfold ir59
 rw [b6]
 cases b<;>simp [d9,i6,j8,b8,d7,num]
theorem i_long (t:Tx):d8 Tryz.prog 225 [.val (tx t)] (.ret (.val (num (if t.length≤65536 then 0 else 2))) []) []:=by
 refine f7 mixed ok225 rfl (fun _=>rfl) ?_
 unfold ir225
 rw [b6]
 have e:decide ((t.length:Int)≤65536)=decide (t.length≤65536):=by
  by_cases h:t.length≤65536
  · rw [decide_eq_true h,decide_eq_true (by omega)]
  · rw [decide_eq_false h,decide_eq_false (by omega)]
 simp [d9,i6,j8,b8,d7,tx,b9,e]
 refine b7 rfl rfl (.inl rfl) (b1d (decide (t.length≤65536)) 2) ?_
 simp [num]
theorem b16 (c:UInt8):d8 Tryz.prog 196 [.val (rvb c)] (.ret (.val (.bool (P6 c))) []) []:=by
 refine f7 mixed ok196 rfl (fun _=>rfl) ?_
 unfold ir196
 rw [b6]
 have e1:((97:Int)≤c.toNat)↔97≤c.toNat:=by omega
 have e2:((c.toNat:Int)≤122)↔c.toNat≤122:=by omega
 by_cases h:97≤c.toNat
 · simp [d9,i6,j8,b8,d7,rvb,P6,h,e1,e2]
 · simp [d9,i6,j8,b8,d7,rvb,P6,h,e1,e2]
theorem b7h (c:UInt8):d8 Tryz.prog 257 [.val (rvb c)] (.ret (.val (.bool (P3 c))) []) []:=by
 refine f7 mixed ok257 rfl (fun _=>rfl) ?_
 unfold ir257
 rw [b6]
 have e1:((48:Int)≤c.toNat)↔48≤c.toNat:=by omega
 have e2:((c.toNat:Int)≤57)↔c.toNat≤57:=by omega
 by_cases h:48≤c.toNat
 · simp [d9,i6,j8,b8,d7,rvb,P3,h,e1,e2]
 · simp [d9,i6,j8,b8,d7,rvb,P3,h,e1,e2]
theorem c08 (u:LUrl):d8 Tryz.prog 201 [.val (X1 u)] (.ret (.val (.bool (a0o u.scheme))) []) []:=by
 refine f7 mixed ok201 rfl (fun _=>rfl) ?_
 unfold ir201
 rw [b6]
 have e1:(⟨#[104,116,116,112]⟩:ByteArray)=bs a7a:=rfl
 have e2:(⟨#[104,116,116,112,115]⟩:ByteArray)=bs a9y:=rfl
 by_cases h:u.scheme=a7a
 · simp [d9,i6,j8,b8,d7,X1,tx,num,e1,e2,L3,a0o,h]
 · by_cases h':u.scheme=a9y
   · simp [d9,i6,j8,b8,d7,X1,tx,num,e1,e2,L3,a0o,h',show ¬ a9y=a7a by decide]
   · simp [d9,i6,j8,b8,d7,X1,tx,num,e1,e2,L3,a0o,h,h']
theorem c5z (t:Tx):d8 Tryz.prog 243 [.val (tx t)] (.ret (.val (num (a0t t))) []) []:=by
 refine f7 mixed ok243 rfl (fun _=>rfl) ?_
 unfold ir243
 rw [b6]
 have e1:(⟨#[104,116,116,112]⟩:ByteArray)=bs a7a:=rfl
 by_cases h:t=a7a
 · simp [d9,i6,j8,b8,d7,tx,e1,L3,a0t,h,num]
 · simp [d9,i6,j8,b8,d7,tx,e1,L3,a0t,h,num]
def a3c (l:List Int):Int:=(l.find? (fun c=>c != 0)).getD 0
theorem c65 {c:Int} (h:c≠0) (r:List Int):a3c (c :: r)=c:=by simp [a3c,h]
theorem c0w (r:List Int):a3c (0 :: r)=a3c r:=by simp [a3c]
theorem c52 (l:List Int) (hl:l.length < 1099511627776):d8 Tryz.prog 58 [.val (.list 1 (l.map num))] (.ret (.val (num (a3c l))) []) []:=by
 refine f7 mixed ok58 rfl (fun _=>rfl) ?_
 unfold ir58
 rw [b6]
 simp [d9,i6,j8,b8,d7,num]
 refine j9 (X:=Nat) (fun i=>⟨t6 [(5,.val (.list 1 (l.map num))),(6,.val (num l.length)),(7,.val (num i))],u1 []⟩) (fun i=>i≤l.length∧a3c l=a3c (l.drop i)) (fun i=>l.length - i) 0 (Le.mk _ _ ?_ ?_) ?_ ?_
 · simp [upd,num]
 · simp
 · simp
 · rintro i ⟨hi,hinv⟩
   simp [num]
   refine f8 (fun h1=>?_) (fun h1=>?_)
   · have e:(l.map num)[i]?.getD RV.nilptr=num l[i]:=by simp [List.getElem?_eq_getElem h1]
     have e2:(l.map num)[i]'(by simpa using h1)=num l[i]:=by simp
     rw [List.drop_eq_getElem_cons h1] at hinv
     by_cases h0:l[i]=0
     · simp [num,h1,h0]
       refine LoopNext.mk (i+1) ⟨by omega,?_⟩ (by omega) (Le.mk _ _ ?_ ?_)
       · rw [hinv,h0,c0w]
       · simp [num];exact wrap_i64 (by omega) (by omega)
       · simp
     · simp [num,h1,h0]
       rw [hinv,c65 h0]
   · have e:i=l.length:=by omega
     subst e
     simp [num]
     rw [hinv];simp [a3c]
theorem c33 (t:Tx) (ht:t.length < 1099511627776):d8 Tryz.prog 248 [.val (tx t)] (.ret (.val (.bool (T8 t))) []) []:=by
 refine f7 mixed ok248 rfl (fun _=>rfl) ?_
 unfold ir248
 rw [b6]
 simp [d9,i6,j8,b8,d7,tx,b9]
 refine j9 (X:=Nat) (fun i=>⟨t6 [(0,.val (tx t)),(5,.val (num t.length)),(6,.val (num i))],u1 []⟩) (fun i=>i≤t.length∧T8 (t.take i)=true) (fun i=>t.length - i) 0 (Le.mk _ _ ?_ ?_) ?_ ?_
 · simp [upd,num,tx]
 · simp
 · simp [T8]
 · rintro i ⟨hi,hinv⟩
   simp [num,tx]
   refine f8 (fun h1=>?_) (fun h1=>?_)
   · simp [tx,num,b9,j5,h1]
     have hw:IntKind.i64.wrap (t[i].toNat:Int)=(t[i].toNat:Int):=wrap_i64 (by omega) (by have:=t[i].toNat_lt;omega)
     refine b7 rfl rfl (.inl rfl) (by rw [hw];exact R0 (t[i].toNat:Int) 33 126) ?_
     have e:decide ((33:Int)≤(t[i].toNat:Int)∧(t[i].toNat:Int)≤126)=decide (33≤t[i].toNat∧t[i].toNat≤126):=by
      by_cases h:33≤t[i].toNat∧t[i].toNat≤126
      · rw [decide_eq_true h,decide_eq_true (by omega)]
      · rw [decide_eq_false h,decide_eq_false (by omega)]
     rw [e]
     have hs:T8 (t.take (i+1))=(T8 (t.take i) && decide (33≤t[i].toNat∧t[i].toNat≤126)):=R9 _ _ _ h1
     cases hd:decide (33≤t[i].toNat∧t[i].toNat≤126) with
     | true=>
      simp
      refine LoopNext.mk (i+1) ⟨by omega,?_⟩ (by omega) (Le.mk _ _ ?_ ?_)
      · rw [hs,hinv,hd];rfl
      · simp [num,tx];exact wrap_i64 (by omega) (by omega)
      · simp
     | false=>
      have:T8 t=false:=by
       unfold T8
       rw [List.all_eq_false]
       exact ⟨t[i],List.getElem_mem h1,by rw [hd];simp⟩
      rw [this]
      simp
   · have e:i=t.length:=by omega
     subst e
     rw [List.take_length] at hinv
     simp [hinv]
def b0s (i:Nat) (c:UInt8):Bool:=decide (i=0) || (!P3 c && !decide (c.toNat=45) && !decide (c.toNat=43) && !decide (c.toNat=46))
theorem sch_eq (i:Nat) (c:UInt8):(!P6 c && b0s i c)=!(if i=0 then P6 c else W6 c):=by
 unfold b0s W6
 have e:decide (c.toNat=45∨c.toNat=43∨c.toNat=46)=(decide (c.toNat=45) || decide (c.toNat=43) || decide (c.toNat=46)):=by
  by_cases h1:c.toNat=45<;>by_cases h2:c.toNat=43<;>by_cases h3:c.toNat=46<;>simp [h1,h2,h3]
 rw [e]
 by_cases h:i=0
 · simp [h]
 · simp only [h,decide_false,Bool.false_or,if_false]
   cases P6 c<;>cases P3 c<;>cases decide (c.toNat=45)<;>cases decide (c.toNat=43)<;>cases decide (c.toNat=46)<;>rfl
structure SS (st:St) (t:Tx) (i m:Nat) (c:UInt8):Prop where
 e0:st.env 0=.val (tx t)
 e3:st.env 3=.val (num i)
 e4:st.env 4=.val (rvb c)
 e7:st.env 7=.val (num m)
 e8:st.env 8=.val (num i)
theorem sops18 {Ks:Kx (St→Prop)} {kx:Kx (RV→St→Prop)} {st:St} {t:Tx} {i m:Nat} {c:UInt8} {b:Bool} (h:SS st t i m c) (hb:st.env 17=.val (.bool b)) (hK:∀ st',SS st' t i m c→st'.env 37=.val (.bool (b && b0s i c))→Ks.k st'):EO Tryz.prog ir247_o18 st (Ks:=Ks) (kx:=kx):=by
 unfold ir247_o18
 cases b with
 | false=>
  simp [hb]
  refine hK _ ⟨?_,?_,?_,?_,?_⟩ ?_<;>simp [h.e0,h.e3,h.e4,h.e7,h.e8]
 | true=>
  by_cases h0:i=0
  · subst h0
    simp [hb,h.e3,num]
    refine hK _ ⟨?_,?_,?_,?_,?_⟩ ?_<;>simp [h.e0,h.e3,h.e4,h.e7,h.e8,b0s]
  · simp [hb,h.e3,h.e4,num,h0,rvb]
    refine b7 rfl rfl (.inl rfl) (b7h c) ?_
    have e3:((c.toNat:Int)=45)↔c.toNat=45:=by omega
    have e4:((c.toNat:Int)=43)↔c.toNat=43:=by omega
    have e5:((c.toNat:Int)=46)↔c.toNat=46:=by omega
    cases hd:P3 c with
    | true=>
     simp [hb,h.e3,h.e4,rvb,h0]
     refine hK _ ⟨?_,?_,?_,?_,?_⟩ ?_<;>simp [h.e0,h.e3,h.e4,h.e7,h.e8,b0s,h0,hd,num,rvb]
    | false=>
     by_cases h1:c.toNat=45
     · simp [hb,h.e3,h.e4,rvb,h0,e3,e4,e5,h1]
       refine hK _ ⟨?_,?_,?_,?_,?_⟩ ?_<;>simp [h.e0,h.e3,h.e4,h.e7,h.e8,b0s,h0,hd,h1,num,rvb]
     · by_cases h2:c.toNat=43
       · simp [hb,h.e3,h.e4,rvb,h0,e3,e4,e5,h1,h2]
         refine hK _ ⟨?_,?_,?_,?_,?_⟩ ?_<;>simp [h.e0,h.e3,h.e4,h.e7,h.e8,b0s,h0,hd,h1,h2,num,rvb]
       · by_cases h3:c.toNat=46
         · simp [hb,h.e3,h.e4,rvb,h0,e3,e4,e5,h1,h2,h3]
           refine hK _ ⟨?_,?_,?_,?_,?_⟩ ?_<;>simp [h.e0,h.e3,h.e4,h.e7,h.e8,b0s,h0,hd,h1,h2,h3,num,rvb]
         · have e3':¬ ((c.toNat:Int)=45):=by omega
           have e4':¬ ((c.toNat:Int)=43):=by omega
           have e5':¬ ((c.toNat:Int)=46):=by omega
           simp [hb,h.e3,h.e4,rvb,h0,e3,e4,e5,h1,h2,h3]
           refine hK _ ⟨?_,?_,?_,?_,?_⟩ ?_<;>simp [h.e0,h.e3,h.e4,h.e7,h.e8,b0s,h0,hd,h1,h2,h3,num,rvb,e5']
theorem c31 (t:Tx) (ht:t.length < 1099511627776):d8 Tryz.prog 247 [.val (tx t)] (.ret (.val (.bool (W0 t))) []) []:=by
 refine f7 mixed ok247 rfl (fun _=>rfl) ?_
 unfold ir247
 rw [b6]
 have hmn:(if (13:Int) < (t.length:Int) then 13 else (t.length:Int))=((min t.length 13:Nat):Int):=by split<;>omega
 simp [d9,i6,j8,b8,d7,tx,b9,hmn]
 refine j9 (X:=Nat) (fun i=>⟨t6 [(0,.val (tx t)),(7,.val (num (min t.length 13:Nat))),(8,.val (num i))],u1 []⟩) (fun i=>i≤min t.length 13∧a4k (t.take i)=true) (fun i=>t.length - i) 0 (Le.mk _ _ ?_ ?_) ?_ ?_
 · simp [upd,num,tx]
 · simp
 · simp [a4k]
 · rintro i ⟨hi,hinv⟩
   have hib:((i:Int) < ((min t.length 13:Nat):Int))↔i < min t.length 13:=by omega
   unfold ir247_l9
   by_cases h1:i < min t.length 13
   · have h1t:i < t.length:=by omega
     have h1':i < t.length∧i < 13:=by omega
     simp [num,tx,hib,h1,h1'.1,h1'.2,b9,j5]
     refine b7 rfl rfl (.inl rfl) (b16 t[i]) ?_
     simp
     refine sops18 (t:=t) (i:=i) (m:=min t.length 13) (c:=t[i]) (b:=!P6 t[i]) ⟨?_,?_,?_,?_,?_⟩ ?_ (fun st' q1 q2=>?_)
     · simp [tx]
     · simp [num]
     · simp [rvb]
     · simp [num]
     · simp [num]
     · simp
     · rw [sch_eq] at q2
       simp only [y0,F7,y5,F5,y6,q7,y4,F6,l7,A7,G8,G9,j6,p5,p6,l1,y7,p9,l3,F4,x9,p8,p7,D5,D6,a0v,a0w,Option.getD_some,Option.getD_none,C2,t8,o5,D2,o4,n8,D4,n9,D3,D1,D0,H3,w6,o2,C8,v8,o1,C7,C0,C9,w5,C5,n7,v7,C6,H5,H4,C1,C3,o0,C4,w7,o3,B0,l9,B9,B8,B7,H0,u9,n0,B5,u6,m8,B4,A8,B6,u7,B2,l8,u5,B3,H2,H1,A9,u4,n6,B1,v6,n5,J3,J2,K6,J4,J8,J6,J5,K5,J7,J9,K2,K3,K4,z1,y9,y8,M1,M2,z8,F8,u0,E1,x2,K8,q8,Q2,M5,L7,N7,N9,N8,Q3,Q4,I5,I7,I6,I8,I9,N4,x4,N3,E2,E3,E4,x5,a0y,F1,x8,Q0,Q1,H6,M3,M4,Option.map_some,Option.map_none,E5,x6,w9,o6,D8,D9,H9,H8,O4,O3,J1,F2,F3,J0,O0,O1,I1,o8,I2,o7,M8,F0,E9,l2,N6,O2,I4,N0,N2,N1,x3,A4,A6,A5,k7,N5,Q6,Q5,M6,I3,U4,M7,o9,E7,E8,x7,E6,l0,u2,k9,u3,k8,K7,O5,O6,z6,z7,G0,F9,D7,q2]
       have hsucc:=b2o t i h1t
       cases hgood:(if i=0 then P6 t[i] else W6 t[i]) with
       | true=>
        refine f8 (fun h=>by simp at h) (fun _=>?_)
        simp [q1.e8,num]
        refine LoopNext.mk (i+1) ⟨by omega,?_⟩ (by omega) (Le.mk _ _ ?_ ?_)
        · rw [hsucc,hinv,hgood];rfl
        · simp [num,tx,q1.e0,q1.e7];exact wrap_i64 (by omega) (by omega)
        · simp
       | false=>
        refine f8 (fun _=>?_) (fun h=>by simp at h)
        have:W0 t=false:=by
         unfold W0
         rw [b0r t i h1t hgood,Bool.and_false]
        rw [this]
        simp
   · have e:i=min t.length 13:=by omega
     simp [num,tx,hib,h1,b9]
     refine b7 rfl rfl (.inl rfl) (R0 t.length 1 12) ?_
     have:W0 t=decide ((1:Int)≤(t.length:Int)∧(t.length:Int)≤12):=by
      unfold W0
      by_cases hl:t.length≤12
      · have:i=t.length:=by omega
        subst this
        rw [List.take_length] at hinv
        rw [hinv,Bool.and_true]
        by_cases h0:1≤t.length
        · rw [decide_eq_true (by omega),decide_eq_true (by omega)]
        · rw [decide_eq_false (by omega),decide_eq_false (by omega)]
      · rw [decide_eq_false (by omega),decide_eq_false (by omega)];rfl
     rw [this]
     simp
end
section
variable [GH]
theorem c7j (n:Int) (h0:-9223372036854775808≤n) (h1:n≤9223372036854775807):d8 Tryz.prog 227 [.val (num n)] (.ret (.val (tx (a6g n))) []) []:=by
 refine f7 mixed ok227 rfl (fun _=>rfl) ?_
 unfold ir227
 rw [b6]
 simp [d9,i6,j8,b8,d7,num]
 refine b7 rfl rfl (.inl rfl) (d1h n h0 h1) ?_
 simp
end
end Go.Proofs
end
section
namespace Go.Proofs
open Go.PW Go.KP
variable [GF]
structure HS (st:St) (t:Tx) (i:Nat) (c:UInt8):Prop where
 e0:st.env 0=.val (tx t)
 e3:st.env 3=.val (num i)
 e4:st.env 4=.val (rvb c)
 e6:st.env 6=.val (num t.length)
 e7:st.env 7=.val (num i)
section
variable {Ks:Kx (St→Prop)} {kx:Kx (RV→St→Prop)} {st:St} {t:Tx} {i:Nat} {c:UInt8} {b:Bool}
def c7s (t:Tx) (i:Nat):Bool:=decide ((t.getD (i - 1) 0).toNat=46)
theorem c4a (hi:i < t.length) (hl:t.length < 1099511627776) (h:HS st t i c) (hb:st.env 43=.val (.bool b)) (h0:b=false→i≠0) (hK:∀ st',HS st' t i c→st'.env 49=.val (.bool (b || c7s t i))→Ks.k st'):EO Tryz.prog ir249_o44 st (Ks:=Ks) (kx:=kx):=by
 unfold ir249_o44
 cases b with
 | true=>
  simp [hb]
  refine hK _ ⟨?_,?_,?_,?_,?_⟩ ?_<;>simp [h.e0,h.e3,h.e4,h.e6,h.e7]
 | false=>
  have hi0:=h0 rfl
  have hw:IntKind.i64.wrap ((i:Int) - 1)=((i - 1:Nat):Int):=by rw [wrap_i64 (by omega) (by omega)];omega
  have hi1:i - 1 < t.length:=by omega
  have e46:((t[i - 1].toNat:Int)=46)↔t[i - 1].toNat=46:=by omega
  by_cases h1:t[i - 1].toNat=46
  · simp [hb,h.e0,h.e3,h.e4,h.e6,h.e7,tx,num,rvb,b9,j5,hw,hi1,e46,h1]
    refine hK _ ⟨?_,?_,?_,?_,?_⟩ ?_<;>simp [h.e0,h.e3,h.e4,h.e6,h.e7,tx,num,rvb,c7s,List.getElem?_eq_getElem hi1,h1]
  · have h1':((t[i - 1].toNat:Int) == 46)=false:=by simp;omega
    simp [hb,h.e0,h.e3,h.e4,h.e6,h.e7,tx,num,rvb,b9,j5,hw,hi1,e46,h1,h1']
    refine hK _ ⟨?_,?_,?_,?_,?_⟩ ?_<;>simp [h.e0,h.e3,h.e4,h.e6,h.e7,tx,num,rvb,c7s,List.getElem?_eq_getElem hi1,h1,h1']
def c7t (t:Tx) (i:Nat):Bool:=decide ((t.getD (i - 1) 0).toNat=45) || c7s t i
theorem c4b (hi:i < t.length) (hl:t.length < 1099511627776) (h:HS st t i c) (hb:st.env 36=.val (.bool b)) (h0:b=false→i≠0) (hK:∀ st',HS st' t i c→st'.env 49=.val (.bool (b || c7t t i))→Ks.k st'):EO Tryz.prog ir249_o37 st (Ks:=Ks) (kx:=kx):=by
 unfold ir249_o37
 cases b with
 | true=>
  simp [hb]
  refine c4a (b:=true) (t:=t) (i:=i) (c:=c) hi hl ⟨?_,?_,?_,?_,?_⟩ ?_ (by simp) (fun st' q1 q2=>hK st' q1 (by simpa using q2))<;>simp [h.e0,h.e3,h.e4,h.e6,h.e7]
 | false=>
  have hi0:=h0 rfl
  have hw:IntKind.i64.wrap ((i:Int) - 1)=((i - 1:Nat):Int):=by rw [wrap_i64 (by omega) (by omega)];omega
  have hi1:i - 1 < t.length:=by omega
  have e46:((t[i - 1].toNat:Int)=45)↔t[i - 1].toNat=45:=by omega
  by_cases h1:t[i - 1].toNat=45
  · simp [hb,h.e0,h.e3,h.e4,h.e6,h.e7,tx,num,rvb,b9,j5,hw,hi1,e46,h1]
    refine c4a (b:=true) (t:=t) (i:=i) (c:=c) hi hl ⟨?_,?_,?_,?_,?_⟩ ?_ (by simp) (fun st' q1 q2=>hK st' q1 (by rw [q2];simp [c7t,List.getElem?_eq_getElem hi1,h1]))<;>simp [h.e0,h.e3,h.e4,h.e6,h.e7,tx,num,rvb]
  · have h1':((t[i - 1].toNat:Int) == 45)=false:=by simp;omega
    simp [hb,h.e0,h.e3,h.e4,h.e6,h.e7,tx,num,rvb,b9,j5,hw,hi1,e46,h1,h1']
    refine c4a (b:=false) (t:=t) (i:=i) (c:=c) hi hl ⟨?_,?_,?_,?_,?_⟩ ?_ (fun _=>hi0) (fun st' q1 q2=>hK st' q1 (by rw [q2];simp [c7t,List.getElem?_eq_getElem hi1,h1]))<;>simp [h.e0,h.e3,h.e4,h.e6,h.e7,tx,num,rvb]
def c7u (t:Tx) (i:Nat):Bool:=decide (i=t.length - 1) || c7t t i
theorem c4c (hi:i < t.length) (hl:t.length < 1099511627776) (h:HS st t i c) (hb:st.env 29=.val (.bool b)) (h0:b=false→i≠0) (hK:∀ st',HS st' t i c→st'.env 49=.val (.bool (b || c7u t i))→Ks.k st'):EO Tryz.prog ir249_o30 st (Ks:=Ks) (kx:=kx):=by
 unfold ir249_o30
 cases b with
 | true=>
  simp [hb]
  refine c4b (b:=true) (t:=t) (i:=i) (c:=c) hi hl ⟨?_,?_,?_,?_,?_⟩ ?_ (by simp) (fun st' q1 q2=>hK st' q1 (by simpa using q2))<;>simp [h.e0,h.e3,h.e4,h.e6,h.e7]
 | false=>
  have hi0:=h0 rfl
  have hw:IntKind.i64.wrap ((t.length:Int) - 1)=((t.length - 1:Nat):Int):=by rw [wrap_i64 (by omega) (by omega)];omega
  have e:((i:Int) == ((t.length - 1:Nat):Int))=decide (i=t.length - 1):=by
   rw [Bool.eq_iff_iff];simp;omega
  simp only [y0,F7,y5,F5,y6,q7,y4,F6,l7,A7,G8,G9,j6,p5,p6,l1,y7,p9,l3,F4,x9,p8,p7,D5,D6,a0v,a0w,Option.getD_some,Option.getD_none,C2,t8,o5,D2,o4,n8,D4,n9,D3,D1,D0,H3,w6,o2,C8,v8,o1,C7,C0,C9,w5,C5,n7,v7,C6,H5,H4,C1,C3,o0,C4,w7,o3,B0,l9,B9,B8,B7,H0,u9,n0,B5,u6,m8,B4,A8,B6,u7,B2,l8,u5,B3,H2,H1,A9,u4,n6,B1,v6,n5,J3,J2,K6,J4,J8,J6,J5,K5,J7,J9,K2,K3,K4,z1,y9,y8,M1,M2,z8,F8,u0,E1,x2,K8,q8,Q2,M5,L7,N7,N9,N8,Q3,Q4,I5,I7,I6,I8,I9,N4,x4,N3,E2,E3,E4,x5,a0y,F1,x8,Q0,Q1,H6,M3,M4,Option.map_some,Option.map_none,E5,x6,w9,o6,D8,D9,H9,H8,O4,O3,J1,F2,F3,J0,O0,O1,I1,o8,I2,o7,M8,F0,E9,l2,N6,O2,I4,N0,N2,N1,x3,A4,A6,A5,k7,N5,Q6,Q5,M6,I3,U4,M7,o9,E7,E8,x7,E6,l0,u2,k9,u3,k8,K7,O5,O6,z6,z7,G0,F9,D7,hb,h.e0,h.e3,h.e4,h.e6,h.e7,tx,num,rvb,b9,hw,e]
  refine f8 (fun _=>?_) (fun h=>absurd rfl h)
  by_cases h1:i=t.length - 1
  · simp [hb,h.e0,h.e3,h.e4,h.e6,h.e7,tx,num,rvb,b9,hw,e,(eq_true h1:(i=t.length - 1)=True)]
    refine c4b (b:=true) (t:=t) (i:=i) (c:=c) hi hl ⟨?_,?_,?_,?_,?_⟩ ?_ (by simp) (fun st' q1 q2=>hK st' q1 (by rw [q2];simp [c7u,(eq_true h1:(i=t.length - 1)=True)]))<;>simp [h.e0,h.e3,h.e4,h.e6,h.e7,tx,num,rvb]
  · simp [hb,h.e0,h.e3,h.e4,h.e6,h.e7,tx,num,rvb,b9,hw,e,h1]
    refine c4b (b:=false) (t:=t) (i:=i) (c:=c) hi hl ⟨?_,?_,?_,?_,?_⟩ ?_ (fun _=>hi0) (fun st' q1 q2=>hK st' q1 (by rw [q2];simp [c7u,h1]))<;>simp [h.e0,h.e3,h.e4,h.e6,h.e7,tx,num,rvb]
def b6u (t:Tx) (i:Nat):Bool:=decide (i=0) || c7u t i
theorem c4d (hi:i < t.length) (hl:t.length < 1099511627776) (h:HS st t i c) (hb:st.env 25=.val (.bool b)) (hK:∀ st',HS st' t i c→st'.env 49=.val (.bool (b || b6u t i))→Ks.k st'):EO Tryz.prog ir249_o26 st (Ks:=Ks) (kx:=kx):=by
 unfold ir249_o26
 cases b with
 | true=>
  simp [hb]
  refine c4c (b:=true) (t:=t) (i:=i) (c:=c) hi hl ⟨?_,?_,?_,?_,?_⟩ ?_ (by simp) (fun st' q1 q2=>hK st' q1 (by simpa using q2))<;>simp [h.e0,h.e3,h.e4,h.e6,h.e7]
 | false=>
  by_cases h1:i=0
  · subst h1
    simp [hb,h.e0,h.e3,h.e4,h.e6,h.e7,tx,num,rvb,b9]
    refine c4c (b:=true) (t:=t) (i:=0) (c:=c) hi hl ⟨?_,?_,?_,?_,?_⟩ ?_ (by simp) (fun st' q1 q2=>hK st' q1 (by rw [q2];simp [b6u]))<;>simp [h.e0,h.e3,h.e4,h.e6,h.e7,tx,num,rvb]
  · simp [hb,h.e0,h.e3,h.e4,h.e6,h.e7,tx,num,rvb,b9,h1]
    refine c4c (b:=false) (t:=t) (i:=i) (c:=c) hi hl ⟨?_,?_,?_,?_,?_⟩ ?_ (fun _=>h1) (fun st' q1 q2=>hK st' q1 (by rw [q2];simp [b6u,h1]))<;>simp [h.e0,h.e3,h.e4,h.e6,h.e7,tx,num,rvb,h1]
end
def G7 (t:Tx) (i:Nat) (c:UInt8):Bool:=(!decide (c.toNat=45) && !decide (c.toNat=46)) || b6u t i
theorem d0v {K:Kx (PExit→St→Prop)} {st:St} {t:Tx} {i:Nat} {c:UInt8} (hi:i < t.length) (hl:t.length < 1099511627776) (h:HS st t i c)
 (hR:G7 t i c=true→∀ st',st'.env 2=.val (.bool false)→K.k .ret st') (hN:G7 t i c=false→∀ st',HS st' t i c→K.k .normal st'):EC Tryz.prog ir249_s19 st (K:=K):=by
 unfold ir249_s19
 have hend:∀ b,b=(!decide (c.toNat=45) && !decide (c.toNat=46))→∀ st':St,HS st' t i c→st'.env 49=.val (.bool (b || b6u t i)) →
  CD (st'.env 49) (A:=⟨EC Tryz.prog (.seq (.reg [⟨some 2,.mov (.k (.val (.bool false))),none⟩]) .ret) st' (K:=K)⟩) (B:=⟨EC Tryz.prog .skip st' (K:=K)⟩):=by
  intro b hb st' q1 q2
  rw [q2]
  have e:(b || b6u t i)=G7 t i c:=by rw [hb];rfl
  rw [e]
  cases hbd:G7 t i c with
  | true=>
   simp
   exact hR hbd _ (by simp)
  | false=>
   simp
   exact hN hbd _ q1
 have e3:((c.toNat:Int)=45)↔c.toNat=45:=by omega
 have e5:((c.toNat:Int)=46)↔c.toNat=46:=by omega
 by_cases h1:c.toNat=45
 · simp [h.e0,h.e3,h.e4,h.e6,h.e7,tx,num,rvb,e3,e5,h1]
   refine c4d (b:=false) (t:=t) (i:=i) (c:=c) hi hl ⟨?_,?_,?_,?_,?_⟩ ?_ (fun st' q1 q2=>hend false (by simp [h1]) st' q1 q2)<;>simp [h.e0,h.e3,h.e4,h.e6,h.e7,tx,num,rvb,h1]
 · by_cases h2:c.toNat=46
   · simp [h.e0,h.e3,h.e4,h.e6,h.e7,tx,num,rvb,e3,e5,h1,h2]
     refine c4d (b:=false) (t:=t) (i:=i) (c:=c) hi hl ⟨?_,?_,?_,?_,?_⟩ ?_ (fun st' q1 q2=>hend false (by simp [h2]) st' q1 q2)<;>simp [h.e0,h.e3,h.e4,h.e6,h.e7,tx,num,rvb,h2]
   · have h2':((c.toNat:Int) == 46)=false:=by simp;omega
     simp [h.e0,h.e3,h.e4,h.e6,h.e7,tx,num,rvb,e3,e5,h1,h2,h2']
     refine c4d (b:=true) (t:=t) (i:=i) (c:=c) hi hl ⟨?_,?_,?_,?_,?_⟩ ?_ (fun st' q1 q2=>hend true (by simp [h1,h2]) st' q1 q2)<;>simp [h.e0,h.e3,h.e4,h.e6,h.e7,tx,num,rvb,h1,h2]
     all_goals omega
def a19 (c:UInt8):Bool:=P6 c || P3 c
def a2p (t:Tx) (i:Nat):Bool:=decide (i=0) || !a19 (t.getD (i - 1) 0)
theorem b4i {c:UInt8} (h:c.toNat=45∨c.toNat=46):a19 c=false:=by
 unfold a19 P6 P3
 rcases h with h | h<;>simp [h]
theorem d0s (t:Tx) (ht:t.length < 1099511627776):d8 Tryz.prog 249 [.val (tx t)] (.ret (.val (.bool (a16 t))) []) []:=by
 refine f7 mixed ok249 rfl (fun _=>rfl) ?_
 unfold ir249
 rw [b6]
 simp [d9,i6,j8,b8,d7,tx,b9]
 refine j9 (X:=Nat) (fun i=>⟨t6 [(0,.val (tx t)),(6,.val (num t.length)),(7,.val (num i))],u1 []⟩) (fun i=>i≤t.length∧a16 t=U3 (a2p t i) (t.drop i)∧(0 < i→a19 (t.getD (i - 1) 0)=true∨((t.getD (i - 1) 0).toNat=45∨(t.getD (i - 1) 0).toNat=46)∧i < t.length)) (fun i=>t.length - i) 0 (Le.mk _ _ ?_ ?_) ?_ ?_
 · simp [upd,num,tx]
 · simp
 · simp [a2p,a16]
 · rintro i ⟨hi,hinv,hprev⟩
   unfold ir249_l8
   simp [num,tx]
   refine f8 (fun h1=>?_) (fun h1=>?_)
   · have hstep:=b40 (a2p t i) t i h1
     have hg1:t.getD (i+1 - 1) 0=t[i]:=by rw [Nat.add_sub_cancel];exact a4t _ _ _ h1
     have hl1:a2p t (i+1)=!a19 t[i]:=by
      unfold a2p
      rw [hg1];simp
     have hnext:∀ st':St,st'.env 0=.val (tx t)→st'.env 6=.val (num t.length)→st'.env 7=.val (num ((i:Int)+1))→a16 t=U3 (!a19 t[i]) (t.drop (i+1))→(a19 t[i]=true∨(t[i].toNat=45∨t[i].toNat=46)∧i+1 < t.length) →
      ∃ x',(x'≤t.length∧a16 t=U3 (a2p t x') (t.drop x')∧(0 < x'→a19 (t.getD (x' - 1) 0)=true∨((t.getD (x' - 1) 0).toNat=45∨(t.getD (x' - 1) 0).toNat=46)∧x' < t.length))∧t.length - x' < t.length - i∧Le st' ⟨t6 [(0,.val (tx t)),(6,.val (num t.length)),(7,.val (num x'))],u1 []⟩:=fun st' q1 q2 q3 q4 q5=>by
      refine ⟨i+1,⟨by omega,by rw [hl1];exact q4,fun _=>by rw [hg1];exact q5⟩,by omega,Le.mk _ _ ?_ ?_⟩
      · simp [q1,q2,q3]
      · simp
     simp [tx,num,b9,j5,h1]
     refine b7 rfl rfl (.inl rfl) (b16 t[i]) ?_
     have hplain:a19 t[i]=true→a16 t=U3 (!a19 t[i]) (t.drop (i+1)):=fun hp=>by
      rw [hinv,hstep]
      have:(P6 t[i] || P3 t[i])=true:=hp
      rw [this,hp];rfl
     cases hlow:P6 t[i] with
     | true=>
      have hp:a19 t[i]=true:=by unfold a19;rw [hlow];rfl
      simp
      refine hnext _ ?_ ?_ ?_ (hplain hp) (.inl hp)
      · simp [tx]
      · simp [num]
      · simp [num];exact wrap_i64 (by omega) (by omega)
     | false=>
      simp
      refine b7 rfl rfl (.inl rfl) (b7h t[i]) ?_
      cases hdig:P3 t[i] with
      | true=>
       have hp:a19 t[i]=true:=by unfold a19;rw [hdig];simp
       simp
       refine hnext _ ?_ ?_ ?_ (hplain hp) (.inl hp)
       · simp [tx]
       · simp [num]
       · simp [num];exact wrap_i64 (by omega) (by omega)
      | false=>
       have hp:a19 t[i]=false:=by unfold a19;rw [hlow,hdig];rfl
       have hp':(P6 t[i] || P3 t[i])=false:=hp
       simp
       refine d0v (t:=t) (i:=i) (c:=t[i]) h1 ht ⟨?_,?_,?_,?_,?_⟩ (fun hbd st' q=>?_) (fun hbd st' q=>?_)
       · simp [tx]
       · simp [num]
       · simp [rvb]
       · simp [num]
       · simp [num]
       · have:a16 t=false:=by
          rw [hinv,hstep,hp']
          by_cases hcs:t[i].toNat=45∨t[i].toNat=46
          · have hb26':b6u t i=true:=by
             unfold G7 at hbd
             rcases hcs with h | h<;>simpa [h] using hbd
            have hlast:a2p t i=true∨i=t.length - 1:=by
             unfold b6u c7u c7t c7s at hb26'
             simp only [Bool.or_eq_true,decide_eq_true_eq] at hb26'
             rcases hb26' with h | h | h | h
             · left;unfold a2p;rw [decide_eq_true h];rfl
             · right;exact h
             · left;unfold a2p;rw [b4i (.inl h)];simp
             · left;unfold a2p;rw [b4i (.inr h)];simp
            by_cases hla:a2p t i=true
            · rw [hla];simp
            · have hei:i=t.length - 1:=hlast.resolve_left hla
              have hd:t.drop (i+1)=[]:=List.drop_eq_nil_of_le (by omega)
              rw [hd]
              cases (a2p t i || !decide (t[i].toNat=45∨t[i].toNat=46))<;>rfl
          · rw [decide_eq_false hcs];simp
         rw [this]
         simp [q]
       · have hcs:t[i].toNat=45∨t[i].toNat=46:=by
          unfold G7 at hbd
          by_cases h45:t[i].toNat=45
          · exact .inl h45
          · by_cases h46:t[i].toNat=46
            · exact .inr h46
            · simp [h45,h46] at hbd
         have hb26':b6u t i=false:=by
          unfold G7 at hbd
          rcases hcs with h | h<;>simpa [h] using hbd
         unfold b6u c7u c7t c7s at hb26'
         simp only [Bool.or_eq_false_iff,decide_eq_false_iff_not] at hb26'
         obtain ⟨k0,k1,k2,k3⟩:=hb26'
         have hla:a2p t i=false:=by
          unfold a2p
          rcases hprev (by omega) with h | ⟨h | h,_⟩
          · rw [h,decide_eq_false k0];rfl
          · exact absurd h k2
          · exact absurd h k3
         simp [q.e7,num]
         refine hnext _ ?_ ?_ ?_ ?_ (.inr ⟨hcs,by omega⟩)
         · simp [q.e0]
         · simp [q.e6]
         · simp [num];exact wrap_i64 (by omega) (by omega)
         · rw [hinv,hstep,hp',hla,decide_eq_true hcs,hp];rfl
   · have e:i=t.length:=by omega
     subst e
     have e3:(⟨#[]⟩:ByteArray)=bs []:=rfl
     rw [List.drop_length] at hinv
     have hfin:a16 t=!decide (t=[]):=by
      rw [hinv]
      unfold a2p
      simp only [U3]
      by_cases h0:t=[]
      · subst h0;rfl
      · have hpos:0 < t.length:=List.length_pos_iff.2 h0
        rcases hprev hpos with h | ⟨_,h⟩
        · rw [h,decide_eq_false (by omega),decide_eq_false h0];rfl
        · omega
     rw [hfin]
     simp [tx,e3,L3]
end Go.Proofs
end
section
namespace Go.Proofs
open Go.PW Go.KP
attribute [local simp] RV.cells RV.one PV.cells PV.solid PV.one G4 i7 L9 L6 RV.ofCells elems PV.killL
variable [GH]
theorem c98 (n:Int) (h0:-9223372036854775808≤n) (h1:n≤9223372036854775807):(a6g n).length≤20:=by
 unfold a6g
 split
 · have:=a44 18 (-n).toNat (by omega)
   simp;omega
 · have:=a44 18 n.toNat (by omega)
   omega
structure UT (st:St) (u:LUrl) (pre:Tx):Prop where
 e1:st.env 1=.ptr 1 0
 e3:st.env 3=.val (tx pre)
 m1:st.mem 1=.box (f5 u)
abbrev txt (t:Tx):Kx (PExit→St→Prop):=⟨a2b [.t 2] (.val (tx t))⟩
theorem c01 (u:LUrl) (hs:u.Small) (pre:Tx) (hp:pre.length < 5497558138880) (st:St) (h:UT st u pre) :
 EC Tryz.prog ir202_from7 st (K:=txt (pre++(if u.hasQ then 63 :: u.query else [])++(if u.hasF then 35 :: u.frag else []))):=by
 unfold ir202_from7
 obtain ⟨s1,s2,s3,s4,s5,s6,s7⟩:=hs
 have e5:(⟨#[63]⟩:ByteArray)=bs [63]:=rfl
 have e6:(⟨#[35]⟩:ByteArray)=bs [35]:=rfl
 cases hq:u.hasQ with
 | true=>
  cases hf:u.hasF with
  | true=>
   simp [h.e1,h.e3,h.m1,f5,tx,num,b9,e5,e6,L4,hq,hf]
   omega
  | false=>
   simp [h.e1,h.e3,h.m1,f5,tx,num,b9,e5,e6,L4,hq,hf]
   omega
 | false=>
  cases hf:u.hasF with
  | true=>
   simp [h.e1,h.e3,h.m1,f5,tx,num,b9,e5,e6,L4,hq,hf]
   omega
  | false=>
   simp [h.e1,h.e3,h.m1,f5,tx,num,b9,e5,e6,L4,hq,hf]
def b3j (u:LUrl):Tx:=u.path++(if u.hasQ then 63 :: u.query else [])++(if u.hasF then 35 :: u.frag else [])
theorem b2z (u:LUrl) (hs:u.Small) (pre:Tx) (hp:pre.length < 4398046511104) (st:St) (h:UT st u pre) :
 EC Tryz.prog ir202_from6 st (K:=txt (pre++b3j u)):=by
 unfold ir202_from6
 have hs':=hs
 obtain ⟨s1,s2,s3,s4,s5,s6,s7⟩:=hs
 have e:pre++b3j u=(pre++u.path)++(if u.hasQ then 63 :: u.query else [])++(if u.hasF then 35 :: u.frag else []):=by simp [b3j]
 rw [e]
 simp [h.e1,h.e3,h.m1,f5,tx,num,b9,L4]
 refine ⟨by omega,?_⟩
 refine c01 u hs' (pre++u.path) (by simp;omega) _ ⟨?_,?_,?_⟩<;>simp [h.e1,h.m1,f5,tx]
theorem c02 (u:LUrl) (hs:u.Small) (hp0:-9223372036854775808≤u.port) (pre:Tx) (hp:pre.length < 4398046510080) (st:St) (h:UT st u pre) :
 EC Tryz.prog ir202_from5 st (K:=txt (pre++a3e u.port++b3j u)):=by
 unfold ir202_from5
 have e5:(⟨#[58]⟩:ByteArray)=bs [58]:=rfl
 by_cases h0:u.port=0
 · have e:pre++a3e u.port++b3j u=pre++b3j u:=by simp [a3e,h0]
   rw [e]
   simp [h.e1,h.e3,h.m1,f5,tx,num,b9,L4,h0]
   refine b2z u hs pre (by omega) _ ⟨?_,?_,?_⟩<;>simp [h.e1,h.e3,h.m1,f5,tx,num,h0]
 · have e:pre++a3e u.port++b3j u=(pre++58 :: a6g u.port)++b3j u:=by simp [a3e,h0]
   rw [e]
   simp [h.e1,h.e3,h.m1,f5,tx,num,b9,L4,h0]
   refine b7 rfl rfl (.inl rfl) (c7j u.port hp0 hs.2.2.2.2.2.2) ?_
   have hl:=c98 u.port hp0 hs.2.2.2.2.2.2
   simp [tx,num,b9,L4,e5]
   refine ⟨by omega,by omega,?_⟩
   refine b2z u hs (pre++58 :: a6g u.port) (by simp;omega) _ ⟨?_,?_,?_⟩<;>simp [h.e1,h.e3,h.m1,f5,tx,num]
theorem b20 (u:LUrl) (hs:u.Small) (hp0:-9223372036854775808≤u.port) (pre:Tx) (hp:pre.length < 3298534882300) (st:St) (h:UT st u pre) :
 EC Tryz.prog ir202_from4 st (K:=txt (pre++u.host++a3e u.port++b3j u)):=by
 unfold ir202_from4
 have hs':=hs
 obtain ⟨s1,s2,s3,s4,s5,s6,s7⟩:=hs
 simp [h.e1,h.e3,h.m1,f5,tx,num,b9,L4]
 refine ⟨by omega,?_⟩
 refine c02 u hs' hp0 (pre++u.host) (by simp;omega) _ ⟨?_,?_,?_⟩<;>simp [h.e1,h.m1,f5,tx,num]
theorem c03 (u:LUrl) (hs:u.Small) (hp0:-9223372036854775808≤u.port) (st:St) (e1:st.env 1=.ptr 1 0) (m1:st.mem 1=.box (f5 u)) :
 EC Tryz.prog ir202_from2 st (K:=txt (u.scheme++[58,47,47]++(if u.user=[] then [] else u.user++[64])++u.host++a3e u.port++b3j u)):=by
 unfold ir202_from2
 have hs':=hs
 obtain ⟨s1,s2,s3,s4,s5,s6,s7⟩:=hs
 have q1:(⟨#[58,47,47]⟩:ByteArray)=bs [58,47,47]:=rfl
 have q2:(⟨#[]⟩:ByteArray)=bs []:=rfl
 have q3:(⟨#[64]⟩:ByteArray)=bs [64]:=rfl
 by_cases hu:u.user=[]
 · rw [if_pos hu,List.append_nil]
   simp [e1,m1,f5,tx,num,b9,L4,q1,q2,q3,L3,hu]
   refine ⟨by omega,?_⟩
   refine b20 u hs' hp0 (u.scheme++[58,47,47]) (by simp;omega) _ ⟨?_,?_,?_⟩<;>simp [e1,m1,f5,tx,num,hu]
 · rw [if_neg hu]
   simp [e1,m1,f5,tx,num,b9,L4,q1,q2,q3,L3,hu]
   refine ⟨by omega,by omega,by omega,?_⟩
   refine b20 u hs' hp0 (u.scheme++[58,47,47]++(u.user++[64])) (by simp;omega) _ ⟨?_,?_,?_⟩<;>simp [e1,m1,f5,tx,num]
theorem d0n (u:LUrl) (hs:u.Small) (hp0:-9223372036854775808≤u.port):d8 Tryz.prog 202 [.val (X1 u)] (.ret (.val (tx (a3d u))) []) []:=by
 refine f7 mixed ok202 rfl (fun _=>rfl) ?_
 unfold ir202
 rw [b6]
 simp [d9,i6,j8,b8,d7,X1,tx,num,i7]
 refine b7 rfl rfl (.inl rfl) (c08 u) ?_
 have q1:(⟨#[58]⟩:ByteArray)=bs [58]:=rfl
 cases hw:a0o u.scheme with
 | true=>
  simp
  have e:a3d u=u.scheme++[58,47,47]++(if u.user=[] then [] else u.user++[64])++u.host++a3e u.port++b3j u:=by simp [a3d,hw,b3j]
  rw [e]
  refine c03 u hs hp0 _ ?_ ?_<;>simp [f5,tx,num]
 | false=>
  obtain ⟨s1,s2,s3,s4,s5,s6,s7⟩:=hs
  have e:a3d u=u.scheme++[58]++u.path:=by simp [a3d,hw]
  rw [e]
  simp [tx,b9,L4,q1]
  omega
end Go.Proofs
end
section
namespace Go.KP
def a6x (t:Tx):Int×Bool:=Lib.NumEnd.casesOn (motive:=fun _=>Int×Bool) (Lib.atoiAll t) (fun v=>(v,decide (a0c t≤18) && decide (a6g v=t))) (0,false) (Lib.atoiSat t,false)
theorem c3b:∀ (u:Tx) (acc:Nat),u.all P3=true→acc*10 ^ u.length+V5 u < 1000000000000000000→Lib.parseUint10 acc u=.ok (acc*10 ^ u.length+V5 u):=by
 have hlv:∀ (u:Tx) (a:Nat),u.foldl (fun n c=>n*10+(c.toNat - 48)) a=a*10 ^ u.length+V5 u:=by
  intro u
  induction u with
  | nil=>intro a;simp [V5]
  | cons c r ih=>
   intro a
   simp only [List.foldl_cons,V5,List.length_cons]
   rw [ih,ih (0*10+(c.toNat - 48)),Nat.pow_succ]
   have:(a*10+(c.toNat - 48))*10 ^ r.length=a*(10 ^ r.length*10)+(c.toNat - 48)*10 ^ r.length:=by
    rw [Nat.add_mul];congr 1;rw [Nat.mul_assoc,Nat.mul_comm 10]
   rw [this];simp [Nat.add_assoc]
 intro u
 induction u with
 | nil=>intro acc _ _;simp [Lib.parseUint10,V5]
 | cons c r ih=>
  intro acc ha hlt
  simp only [List.all_cons,Bool.and_eq_true] at ha
  have hc:=ha.1
  simp only [P3,decide_eq_true_eq] at hc
  have e:acc*10 ^ (c :: r).length+V5 (c :: r)=(acc*10+(c.toNat - 48))*10 ^ r.length+V5 r:=by
   rw [← hlv (c :: r) acc,List.foldl_cons,hlv r]
  rw [e] at hlt ⊢
  have hp:1≤10 ^ r.length:=Nat.one_le_pow _ _ (by decide)
  have hb:acc*10+(c.toNat - 48) < 1000000000000000000:=by
   have:=Nat.le_mul_of_pos_right (acc*10+(c.toNat - 48)) hp
   omega
  rw [Lib.parseUint10.eq_2,if_pos hc,if_neg (by omega),if_neg (by omega)]
  exact ih _ ha.2 hlt
theorem c5y (t:Tx):(if (a6x t).2 then some (a6x t).1 else none)=W9 t:=by
 cases hl:W9 t with
 | some n=>
  obtain ⟨h1,h2,u,h3,h4,h5,h6⟩:=a6w hl
  have hv:V5 u < 1000000000000000000:=by
   have:=b3s u h4
   have h7:V5 u < 10 ^ 18:=Nat.lt_of_lt_of_le this (Nat.pow_le_pow_right (by omega) h5)
   have h8:(10:Nat) ^ 18=1000000000000000000:=by decide
   omega
  have hpm:Lib.parseMag u=.ok (V5 u):=by
   unfold Lib.parseMag
   rw [if_neg h3,c3b u 0 h4 (by simpa using hv)]
   simp
  have key:Lib.atoiAll t=.ok n:=by
   unfold Lib.atoiAll
   rcases h6 with ⟨rfl,hn⟩ | ⟨rfl,hn⟩
   · have e45:(45:UInt8).toNat=45:=rfl
     simp only [e45,or_true,if_true,hpm,not_true,false_and,if_false,true_and]
     rw [if_neg (by omega),hn]
   · cases hu:t with
     | nil=>exact absurd hu h3
     | cons c r=>
      have hd:P3 c=true:=by rw [hu,List.all_cons,Bool.and_eq_true] at h4;exact h4.1
      simp only [P3,decide_eq_true_eq] at hd
      have e1:¬ c.toNat=43:=by omega
      have e2:¬ c.toNat=45:=by omega
      rw [hu] at hpm hn hv
      simp only [e1,e2,or_self,if_false,not_false_eq_true,true_and,false_and]
      rw [hpm]
      dsimp only
      rw [if_neg (by omega),hn]
  unfold a6x
  rw [key]
  simp only [h1,decide_true,Bool.and_true]
  rw [decide_eq_true h2];rfl
 | none=>
  rcases hv:Lib.atoiAll t with v | _ | _<;>unfold a6x<;>rw [hv]
  · dsimp only
    by_cases h:(decide (a0c t≤18) && decide (a6g v=t))=true
    · simp only [Bool.and_eq_true,decide_eq_true_eq] at h
      have:=b8n v (by rw [h.2];exact h.1)
      rw [h.2,hl] at this
      cases this
    · rw [if_neg h]
  · rfl
  · rfl
theorem b61 {t:Tx} {v:Int} (h:Lib.atoiAll t=.ok v):-9223372036854775808≤v∧v≤9223372036854775807:=by
 unfold Lib.atoiAll at h
 split at h
 · cases h
 · dsimp only at h
   split at h
   · cases h
   · cases h
   · split at h
     · cases h
     · split at h
       · cases h
       · rename_i u _ h1 h2
         injection h with h
         split at h
         · rename_i h3
           have:¬ 9223372036854775808 < u:=fun h4=>h2 ⟨h3,h4⟩
           omega
         · rename_i h3
           have:¬ 9223372036854775808≤u:=fun h4=>h1 ⟨h3,h4⟩
           omega
theorem inum_le {t:Tx} (h:(a6x t).2=true):W9 t=some (a6x t).1:=by
 have:=c5y t
 rw [h] at this
 exact this.symm
theorem c7c {t:Tx} (h:(a6x t).2=false):W9 t=none:=by
 have:=c5y t
 rw [h] at this
 exact this.symm
end Go.KP
namespace Go.PW
open Go.RowKit
variable [GF]
theorem c8g {P:Program} {f:Nat} {rs:List RV} {vals:List Value} {p:PV} (ha:svs rs=some vals)
 (h:∀ L w,Globs L w→b62 L w→Calls P f vals.toArray w fun e w'=>(∃ v,e=.returned v∧∀ γ L,RepP γ L w' p v)∧Below w.heap.size w w'):d8 P f (rs.map .val) (.ret p []) []:=by
 intro L w vs ms hL hgl hgb hargs hnd
 obtain ⟨rfl,rfl⟩:=b9h ha hargs
 refine (h L w hgl hgb).mono fun e w' ⟨⟨v,he,hp⟩,hb⟩=>?_
 exact ⟨Outside.of_below hb,v,fun _=>undef,he,hp _ _,b2u,rfl,fun i b cells h1 h2=>by simp at h1⟩
end Go.PW
namespace Go.Proofs
open Go.PW Go.KP Go.RowKit
variable [GH]
def a12 (t:Tx):PV:=Lib.NumEnd.casesOn (motive:=fun _=>PV) (Lib.atoiAll t) (fun v=>.tup [.val (num v),.val .nilif]) (.tup [.val (num 0),.val (.ifc 278 .opq)]) (.tup [.val (num (Lib.atoiSat t)),.val (.ifc 278 .opq)])
theorem c2l (w:World) (t:ByteArray):Below w.heap.size w (Lib.bytesWorld w 5 t):=Lib.bytesWorld_below _ _ _
theorem b75 {γ:Nat→Value} {L:Nat→Prop} {w:World} {p q:PV} {v u:Value} (h1:RepP γ L w p v) (h2:RepP γ L w q u):RepP γ L w (.tup [p,q]) (.tuple #[v,u]):=
 .tup _ _ rfl fun i hi=>by
  match i,hi with
  | 0,_=>exact h1
  | 1,_=>exact h2
theorem c_Atoi (t:Tx) (ht:t.length < 4294967281):d8 Tryz.prog 253 [.val (tx t)] (.ret (a12 t) []) []:=by
 refine c8g (rs:=[tx t]) (vals:=[.string (bs t)]) rfl fun L w hgl hgb=>?_
 have hsz:(bs t).size=t.length:=b9 t
 rcases h:Lib.atoiAll t with v | _ | _
 · refine (Tryz.strconv_Atoi_ok (bs t) (by rw [hsz];omega) v (by rw [Z0];exact h) w).mono fun e w' ⟨he,hw⟩=>?_
   refine ⟨⟨_,he,fun γ L=>?_⟩,?_⟩
   · unfold a12
     rw [h]
     exact b75 (.val _ _ (.int _ _)) (.val _ _ .nilif)
   · rcases hw with hw | ⟨s,hw⟩
     · exact a5e hw
     · rw [hw];exact c2l _ _
 · refine (Calls.mono (Any.strconv_Atoi_syntax Tryz.laysC172 (bs t) (by rw [hsz];omega) (by rw [Z0];exact h) _ w (hgl _ GH.hs).2 (.inr ⟨_,_,rfl⟩)) fun e w' ⟨N,he,_,_,hw⟩=>?_)
   refine ⟨⟨_,he,fun γ L=>?_⟩,hw⟩
   unfold a12
   rw [h]
   exact b75 (.val _ _ (.int _ _)) (.val _ _ (.ifc _ _ _ (.opq _ rfl)))
 · refine (Tryz.strconv_Atoi_range (bs t) (by rw [hsz];omega) (by rw [Z0];exact h) _ w (hgl _ GH.hr).2 (.inr ⟨_,_,rfl⟩)).mono fun e w' ⟨N,he,_,_,hw⟩=>?_
   refine ⟨⟨_,he,fun γ L=>?_⟩,hw⟩
   unfold a12
   rw [h]
   rw [Z0]
   exact b75 (.val _ _ (.int _ _)) (.val _ _ (.ifc _ _ _ (.opq _ rfl)))
def b3t (t:Tx):PV:=.tup [.val (num (a6x t).1),.val (.bool (a6x t).2)]
theorem b01 (t:Tx) (ht:t.length < 4294967281) (st:St) (h0:st.env 0=.val (tx t)) (h6:st.env 6=.val (num (a0c t)))
 (h45:(∃ v,Lib.atoiAll t=.ok v∧st.env 4=.val (num v)∧st.env 5=.val .nilif)∨(∃ n,(a6x t)=(n,false)∧st.env 4=.val (num n)∧st.env 5=.val (.ifc 278 .opq))) :
 EC Tryz.prog ir242_from4 st (K:=⟨a2b [.t 2,.t 3] (b3t t)⟩):=by
 unfold ir242_from4 b3t
 rcases h45 with ⟨v,hv,h4,h5⟩ | ⟨n,hn,h4,h5⟩
 · have hr:=b61 hv
   have e:a6x t=(v,decide (a0c t≤18) && decide (a6g v=t)):=by unfold a6x;rw [hv]
   rw [e]
   by_cases hd:a0c t≤18
   · have hd':(a0c t:Int)≤18:=by omega
     simp [h0,h4,h5,h6,tx,num,hd']
     refine b7 rfl rfl (.inl rfl) (d1h v hr.1 hr.2) ?_
     simp [h0,h4,h5,h6,tx,num,L3,hd]
   · have hd':¬ (a0c t:Int)≤18:=by omega
     simp [h0,h4,h5,h6,tx,num,hd',hd]
 · rw [hn]
   simp [h0,h4,h5,h6,tx,num]
theorem d0q (t:Tx) (ht:t.length < 4294967281):d8 Tryz.prog 242 [.val (tx t)] (.ret (b3t t) []) []:=by
 refine f7 mixed ok242 rfl (fun _=>rfl) ?_
 unfold ir242
 rw [b6]
 have e3:(⟨#[]⟩:ByteArray)=bs []:=rfl
 have hA:=c_Atoi t ht
 simp [d9,i6,j8,b8,d7,tx]
 have hmid:∀ (a b:RV),a12 t=.tup [.val a,.val b]→((∃ v,Lib.atoiAll t=.ok v∧a=num v∧b=.nilif)∨(∃ n,(a6x t)=(n,false)∧a=num n∧b=.ifc 278 .opq)):=by
  intro a b h
  rcases hv:Lib.atoiAll t with v | _ | _
  · have e:a12 t=.tup [.val (num v),.val .nilif]:=by unfold a12;rw [hv]
    rw [e] at h
    simp only [PV.tup.injEq,List.cons.injEq,PV.val.injEq] at h
    exact .inl ⟨v,rfl,h.1.symm,h.2.1.symm⟩
  · have e:a12 t=.tup [.val (num 0),.val (.ifc 278 .opq)]:=by unfold a12;rw [hv]
    have e2:a6x t=(0,false):=by unfold a6x;rw [hv]
    rw [e] at h
    simp only [PV.tup.injEq,List.cons.injEq,PV.val.injEq] at h
    exact .inr ⟨0,e2,h.1.symm,h.2.1.symm⟩
  · have e:a12 t=.tup [.val (num (Lib.atoiSat t)),.val (.ifc 278 .opq)]:=by unfold a12;rw [hv]
    have e2:a6x t=(Lib.atoiSat t,false):=by unfold a6x;rw [hv]
    rw [e] at h
    simp only [PV.tup.injEq,List.cons.injEq,PV.val.injEq] at h
    exact .inr ⟨Lib.atoiSat t,e2,h.1.symm,h.2.1.symm⟩
 obtain ⟨a,b,hab⟩:∃ a b,a12 t=.tup [.val a,.val b]:=by
  unfold a12
  rcases Lib.atoiAll t with v | _ | _<;>exact ⟨_,_,rfl⟩
 have hm:=hmid a b hab
 rw [hab] at hA
 refine Y4 rfl rfl (.inl rfl) hA ?_
 cases t with
 | nil=>
  simp [tx,b9,e3,L3]
  refine b01 [] ht _ ?_ ?_ ?_
  · simp [tx]
  · simp [num,a0c]
  · rcases hm with ⟨v,h1,rfl,rfl⟩ | ⟨n,h1,rfl,rfl⟩
    · exact .inl ⟨v,h1,by simp,by simp⟩
    · exact .inr ⟨n,h1,by simp,by simp⟩
 | cons c r=>
  have hr:r.length < 4294967280:=by simp at ht;omega
  have e0:(0:Int) < ((r.length:Int)+1):=by omega
  have fin:∀ st':St,st'.env 0=.val (tx (c :: r))→st'.env 6=.val (num (a0c (c :: r)))→st'.env 4=.val a→st'.env 5=.val b→EC Tryz.prog ir242_from4 st' (K:=⟨a2b [.t 2,.t 3] (b3t (c :: r))⟩):=fun st' q0 q6 q4 q5=>by
   refine b01 (c :: r) ht st' q0 q6 ?_
   rcases hm with ⟨v,h1,rfl,rfl⟩ | ⟨n,h1,rfl,rfl⟩
   · exact .inl ⟨v,h1,q4,q5⟩
   · exact .inr ⟨n,h1,q4,q5⟩
  by_cases hc:c=45
  · have e1:((c.toNat:Int)=45):=by rw [hc];rfl
    have hw:IntKind.i64.wrap ((r.length:Int)+1 - 1)=(r.length:Int):=by rw [wrap_i64 (by omega) (by omega)];omega
    simp [tx,b9,e3,L3,j5,e0,e1,hw]
    refine fin _ ?_ ?_ ?_ ?_
    · simp [tx]
    · simp [num,a0c,hc];exact wrap_i64 (by omega) (by omega)
    · simp
    · simp
  · have e1:¬ ((c.toNat:Int)=45):=fun h=>hc (UInt8.toNat_inj.1 (by simp;omega))
    simp [tx,b9,e3,L3,j5,e0,e1]
    refine fin _ ?_ ?_ ?_ ?_
    · simp [tx]
    · simp [num,a0c,hc]
    · simp
    · simp
end Go.Proofs
end
section
namespace Go.Proofs
open Go.PW Go.KP Go.RowKit
def a14 (t:Tx) (k j:Nat):UInt8:=if j < k then c0q (t.getD j 0) else t.getD j 0
def b0n (t:Tx) (B k:Nat) (wr:World):Prop:=
 (∀ j,j < t.length→wr.cell? ⟨B,j,none⟩=some (.int .u8 ((a14 t k j).toNat:Int)))∧(∀ j,j < t.length→wr.frozen? ⟨B,j,none⟩=false)
theorem b8k (t:Tx) (w:World) (cap:Nat):b0n t w.heap.size 0 (w.alloc (.cells (bytesRow (bs t) cap) 5 ((bytesRow (bs t) cap).size,(bytesRow (bs t) cap).size+1))):=by
 have hsz:(bs t).data.size=t.length:=by simp [bs]
 refine ⟨fun j hj=>?_,fun j hj=>?_⟩
 · rw [World.cell?_alloc_mark,bytesRow_at (bs t) cap j (by omega)]
   simp [a14,bs,hj]
 · rw [World.frozen?_alloc_mark]
   have:t.length≤(bytesRow (bs t) cap).size:=by simp [bytesRow,bs]
   have h2:¬ (bytesRow (bs t) cap).size≤j:=by omega
   simp [h2]
theorem c3o {t:Tx} {B k:Nat} {wr:World} (hk:k < t.length) (h:b0n t B k wr) (h1:(65:Int)≤((a14 t k k).toNat:Int)) (h2:((a14 t k k).toNat:Int)≤90) :
 b0n t B (k+1) (wr.setCell ⟨B,k,none⟩ (.int .u8 (((a14 t k k).toNat:Int)+32))):=by
 have e0:a14 t k k=t.getD k 0:=by simp [a14]
 rw [e0] at h1 h2 ⊢
 refine ⟨fun j hj=>?_,fun j hj=>by rw [World.frozen?_setCell];exact h.2 j hj⟩
 by_cases e:j=k
 · subst e
   rw [World.cell?_setCell_same _ _ _ (h.1 j hj)]
   have:a14 t (j+1) j=t.getD j 0+32:=by
    simp only [a14,Nat.lt_succ_self,if_true,c0q]
    rw [if_pos (by omega)]
   rw [this]
   congr 2
   rw [UInt8.toNat_add]
   have e32:(32:UInt8).toNat=32:=rfl
   rw [e32]
   omega
 · rw [World.cell?_setCell_other _ _ _ _ (by simp<;>omega),h.1 j hj]
   have:a14 t (k+1) j=a14 t k j:=by
    unfold a14
    by_cases hjk:j < k
    · rw [if_pos hjk,if_pos (by omega)]
    · rw [if_neg hjk,if_neg (by omega)]
   rw [this]
theorem b2x {t:Tx} {B k:Nat} {wr:World} (h:b0n t B k wr) (h1:¬ ((65:Int)≤((a14 t k k).toNat:Int)∧((a14 t k k).toNat:Int)≤90)):b0n t B (k+1) wr:=by
 have e0:a14 t k k=t.getD k 0:=by simp [a14]
 rw [e0] at h1
 refine ⟨fun j hj=>?_,h.2⟩
 rw [h.1 j hj]
 have:a14 t (k+1) j=a14 t k j:=by
  unfold a14
  by_cases hjk:j < k
  · rw [if_pos hjk,if_pos (by omega)]
  · by_cases e:j=k
    · subst e
      rw [if_pos (by omega),if_neg (by omega)]
      unfold c0q
      rw [if_neg (by omega)]
    · rw [if_neg hjk,if_neg (by omega)]
 rw [this]
theorem c62 {t:Tx} {j:Nat} (hj:j < (R5 t).length):a14 t t.length j=(R5 t)[j]:=by
 have hj':j < t.length:=by simpa [R5] using hj
 unfold a14
 rw [if_pos hj',a4t _ _ _ hj']
 simp [R5]
theorem c0p {t:Tx} {B:Nat} {wr:World} (hR:b0n t B t.length wr) (cap:Nat):(convert 183 9 (.slice (some ⟨B,0,none⟩) t.length cap)).run Tryz.prog wr=.ok (.string (bs (R5 t))) wr:=by
 have hll:(R5 t).length=t.length:=by simp [R5]
 have hback:=run_convert_bytes_back (P:=Tryz.prog) wr 183 9 5 ⟨B,0,none⟩ cap (R5 t) Tryz.underlying183 Tryz.underlying5 Tryz.underlying9 (fun j hj=>by
  have h1:=hR.1 j (by omega)
  rw [c62 hj] at h1
  have e:(Addr.add ⟨B,0,none⟩ j)=⟨B,j,none⟩:=by simp [Addr.add];omega
  rw [e]
  exact h1)
 rw [hll] at hback
 exact hback
set_option maxRecDepth 1000000 in
theorem c3n (t:Tx) (w:World) (hl:t.length < 4294967281) :
 Calls Tryz.prog 239 #[.string (bs t)] w fun e w'=>e=.returned (.string (bs (R5 t)))∧Below w.heap.size w w':=by
 have hsz:(bs t).size=t.length:=b9 t
 have hconv:=run_bytes_of_string (P:=Tryz.prog) w 9 183 5 (bs t) Tryz.underlying9 Tryz.underlying183 Tryz.underlying5
 have hll:(R5 t).length=t.length:=by simp [R5]
 go_enter Tryz.func239,Tryz.ntmps239
 go_wp2
 go_loopw [10] (fun i wr=>∃ k:Nat,k≤t.length∧i=.int .i64 k∧b0n t w.heap.size k wr∧Below w.heap.size w wr)
  (fun i _=>t.length - (intOf i).toNat)
 case atStart=>
  refine ⟨0,Nat.zero_le _,rfl,?_,?_⟩
  · have:=b8k t w (grownCap w t.length 0 5)
    exact ⟨this.1,this.2⟩
  · exact ((Below.refl _ w).alloc (Nat.le_refl _) _).drew
 case round=>
  obtain ⟨k,hk,rfl,hR,hnx⟩:=hrel
  have hck:k < t.length→wr.cell? ⟨w.heap.size,k,none⟩=some (.int .u8 ((a14 t k k).toNat:Int)):=fun h=>hR.1 k h
  have hfk:k < t.length→wr.frozen? ⟨w.heap.size,k,none⟩=false:=fun h=>hR.2 k h
  go_wp2
  · refine ⟨⟨k+1,by omega,by first | rfl | simp,c3o (by assumption) hR (by assumption) (by assumption),hnx.setCell (Nat.le_refl _) _⟩,?_⟩
    simp [intOf];omega
  · refine ⟨⟨k+1,by omega,by first | rfl | simp,b2x hR (by omega),hnx⟩,?_⟩
    simp [intOf];omega
  · refine ⟨⟨k+1,by omega,by first | rfl | simp,b2x hR (by omega),hnx⟩,?_⟩
    simp [intOf];omega
  · have hkn:k=t.length:=by omega
    subst hkn
    have hback':=c0p (wr:=wr) hR (grownCap w t.length 0 5)
    rw [hback']
    go_wp2
    go_ret
    exact ⟨rfl,hnx⟩
section
variable [GF]
theorem c50 (t:Tx) (hl:t.length < 4294967281):d8 Tryz.prog 239 [.val (tx t)] (.ret (.val (tx (R5 t))) []) []:=
 a2r (rs:=[tx t]) (vals:=[.string (bs t)]) (v:=.string (bs (R5 t))) rfl rfl fun L w hgl hgb=>c3n t w hl
end
end Go.Proofs
end
section
namespace Go.Proofs
open Go.PW Go.KP
variable [GH]
theorem c3f {K:Kx (PExit→St→Prop)} (t:Tx) (i n:Nat) (c:UInt8) (b:Bool) (st:St) (e0:st.env 0=.val (tx t)) (e3:st.env 3=.val (num i)) (e4:st.env 4=.val (rvb c)) (e5:st.env 5=.val (.bool b)) (e11:st.env 11=.val (num n)) (e12:st.env 12=.val (num i))
 (hgood:(b || (!decide (i=0) && P3 c))=true→∀ st':St,st'.env 0=.val (tx t)→st'.env 11=.val (num n)→st'.env 12=.val (num i)→K.k .normal st')
 (G7:(b || (!decide (i=0) && P3 c))=false→∀ st':St,st'.env 2=.val (.bool false)→K.k .ret st') :
 EC Tryz.prog ir137_s36 st (K:=K):=by
 unfold ir137_s36
 cases b with
 | true=>
  simp [e5]
  exact hgood (by simp) _ (by simp [e0]) (by simp [e11]) (by simp [e12])
 | false=>
  by_cases h0:i=0
  · subst h0
    simp [e5,e3,e4,num]
    exact G7 (by simp) _ (by simp)
  · have f1:((c.toNat:Int) < 48)↔c.toNat < 48:=by omega
    have f2:((57:Int) < c.toNat)↔57 < c.toNat:=by omega
    by_cases h1:c.toNat < 48
    · simp [e5,e3,e4,num,rvb,h0,f1,h1]
      exact G7 (by simp [P3];omega) _ (by simp)
    · by_cases h2:57 < c.toNat
      · simp [e5,e3,e4,num,rvb,h0,f1,h1,f2,h2]
        exact G7 (by simp [P3];omega) _ (by simp)
      · simp [e5,e3,e4,num,rvb,h0,f1,h1,f2,h2]
        exact hgood (by simp [P3,h0];omega) _ (by simp [e0]) (by simp [e11,num]) (by simp [e12,num])
theorem b47 (t:Tx) (ht:t.length < 1099511627776):d8 Tryz.prog 137 [.val (tx t)] (.ret (.val (.bool (a1d t))) []) []:=by
 refine f7 mixed ok137 rfl (fun _=>rfl) ?_
 unfold ir137
 rw [b6]
 simp [d9,i6,j8,b8,d7,tx,b9]
 refine b7 rfl rfl (.inl rfl) (R0 t.length 1 12) ?_
 by_cases hlen:1≤t.length∧t.length≤12
 rotate_left
 · rw [show decide ((1:Int)≤t.length∧(t.length:Int)≤12)=false from decide_eq_false (by omega)]
   have:a1d t=false:=by unfold a1d;rw [decide_eq_false hlen];rfl
   simp [this]
 rw [show decide ((1:Int)≤t.length∧(t.length:Int)≤12)=true from decide_eq_true (by omega)]
 have hw:a1d t=X6 a1n a3m t:=by unfold a1d;rw [decide_eq_true hlen];rfl
 simp [b9]
 refine j9 (X:=Nat) (fun i=>⟨t6 [(0,.val (tx t)),(11,.val (num t.length)),(12,.val (num i))],u1 []⟩) (fun i=>i≤t.length∧X6 a1n a3m (t.take i)=true) (fun i=>t.length - i) 0 (Le.mk _ _ ?_ ?_) ?_ ?_
 · simp [upd,tx,num]
 · simp
 · simp [X6]
 · rintro i ⟨hi,hall⟩
   simp [num]
   refine f8 (fun h3=>?_) (fun h3=>?_)
   · have hstep:=a3g (p:=a1n) (q:=a3m) (fun _ h=>a5o h) t i h3
     rw [hall,Bool.true_and] at hstep
     have G7:=a2g (p:=a1n) (q:=a3m) t i h3
     have e1:((97:Int)≤t[i].toNat)↔97≤t[i].toNat:=by omega
     have e2:((t[i].toNat:Int)≤122)↔t[i].toNat≤122:=by omega
     have e3:((65:Int)≤t[i].toNat)↔65≤t[i].toNat:=by omega
     have e4:((t[i].toNat:Int)≤90)↔t[i].toNat≤90:=by omega
     have e5:((t[i].toNat:Int)=95)↔t[i].toNat=95:=by omega
     have key:∀ (b:Bool) (st':St),b=a1n t[i]→st'.env 0=.val (tx t)→st'.env 3=.val (num i)→st'.env 4=.val (rvb t[i])→st'.env 5=.val (.bool b)→st'.env 11=.val (num t.length)→st'.env 12=.val (num i)→True:=fun _ _ _ _ _ _ _ _ _=>trivial
     have hg:(a1n t[i] || (!decide (i=0) && P3 t[i]))=true→(if i=0 then a1n t[i] else a3m t[i])=true:=fun h=>by
      by_cases h0:i=0
      · subst h0;simpa using h
      · simpa [h0,a3m] using h
     have hb:(a1n t[i] || (!decide (i=0) && P3 t[i]))=false→(if i=0 then a1n t[i] else a3m t[i])=false:=fun h=>by
      by_cases h0:i=0
      · subst h0;simpa using h
      · simpa [h0,a3m] using h
     by_cases h1:97≤t[i].toNat<;>by_cases h2:t[i].toNat≤122<;>by_cases h4:65≤t[i].toNat<;>by_cases h5:t[i].toNat≤90<;>by_cases h6:t[i].toNat=95<;>first
      | (exfalso;omega)
      | (simp [num,tx,b9,j5,h3,e1,e2,e3,e4,e5,h1,h2,h4,h5,h6]
         refine c3f t i t.length t[i] (a1n t[i]) _ (by simp [tx]) (by simp [num]) (by simp [rvb,h6]) (by simp [a1n,P6,isUp,e1,e2,e3,e4,e5,h1,h2,h4,h5,h6]) (by simp [num]) (by simp [num]) (fun hh st' q0 q11 q12=>?_) (fun hh st' q2=>?_)
         · simp [q12,num]
           refine LoopNext.mk (i+1) ⟨by omega,by rw [hstep];exact hg hh⟩ (by omega) (Le.mk _ _ ?_ ?_)
           · simp [q0,q11,num];exact wrap_i64 (by omega) (by omega)
           · simp
         · have:a1d t=false:=by rw [hw];exact G7 (hb hh)
           simp [q2,this])
   · have e:i=t.length:=by omega
     subst e
     rw [List.take_length] at hall
     simp [hw,hall]
end Go.Proofs
end
