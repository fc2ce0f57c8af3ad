/- Ea: merged out of KLb, KIa, KIb, KIc, KId, KIe, KIt, KIm. -/
import Derived.Test.YtfoapolbgpjfaaaGreatDoorAc
import Derived.Test.YtfoapolbgpjfaaaGreatDoorShelf
import Derived.Test.YtfoapolbgpjfaaaGreatDoorCa
import Derived.Test.YtfoapolbgpjfaaaGreatDoorBa
import Derived.Test.YtfoapolbgpjfaaaGreatDoorProg
import Derived.WalkKit
import Derived.Laws.IdiomStrings
set_option linter.unusedSectionVars false
set_option linter.unusedSimpArgs false
set_option linter.unusedVariables false
set_option maxRecDepth 100000
section
namespace Go.KP
theorem a5n (s:Tx) (c:UInt8):Lib.indexByte s c=if c∈s then (P4 s c:Int) else -1:=by
 induction s with
 | nil=>simp [Lib.indexByte]
 | cons b l ih=>
  unfold Lib.indexByte
  by_cases h:b=c
  · subst h
    simp [P4,List.findIdx_cons]
  · have h':(b == c)=false:=by simpa using h
    have h2:P4 (b :: l) c=P4 l c+1:=by simp [P4,List.findIdx_cons,h']
    rw [h',ih,h2]
    by_cases hm:c∈l
    · have hm':c∈b :: l:=List.mem_cons_of_mem _ hm
      rw [if_pos hm,if_pos hm']
      have:(((P4 l c:Nat):Int) == -1)=false:=by rw [beq_eq_false_iff_ne];omega
      rw [this];simp
    · have hm':¬ c∈b :: l:=by simp [hm];exact fun e=>h e.symm
      rw [if_neg hm,if_neg hm']
      simp
theorem c47 (s:Tx) (c:UInt8):Lib.cut s [c]=(F6 s c,O8 s c,decide (c∈s)):=by
 unfold Lib.cut
 rw [Lib.index_one,a5n]
 by_cases h:c∈s
 · rw [if_pos h,if_pos (by omega)]
   simp [F6,O8,h]
 · rw [if_neg h,if_neg (by omega),a0k h,a7a h]
   simp [h]
theorem b2e (s wo:Tx):Lib.containsAny s wo=T9 s wo:=by
 unfold Lib.containsAny
 induction s with
 | nil=>simp [Lib.indexAny,T9]
 | cons b l ih=>
  have e:T9 (b :: l) wo=(decide (b∈wo) || T9 l wo):=rfl
  rw [e,← ih]
  rw [show Lib.indexAny (b :: l) wo=if wo.contains b then 0 else if Lib.indexAny l wo == -1 then -1 else Lib.indexAny l wo+1 from rfl]
  have hc:wo.contains b=decide (b∈wo):=by rw [Bool.eq_iff_iff];simp
  have hge:=Lib.indexAny_ge wo l
  rw [hc]
  by_cases h:b∈wo
  · simp [h]
  · simp only [h,decide_false,Bool.false_or,if_false,Bool.false_eq_true]
    by_cases h2:Lib.indexAny l wo=-1
    · simp [h2]
    · have h2':(Lib.indexAny l wo == -1)=false:=by simpa using h2
      rw [h2']
      simp only [Bool.false_eq_true,if_false]
      rw [decide_eq_true (by omega),decide_eq_true (by omega)]
theorem a5t (n:Nat):Lib.decDigits n=a1p n:=by
 induction n using Nat.strongRecOn with
 | ind n ih=>
  rw [Lib.decDigits]
  by_cases h:n < 10
  · rw [dif_pos h,a0v h]
  · rw [dif_neg h,a22 h,ih _ (by omega)]
theorem c2a (n:Int):Lib.itoa n=a4h n:=by
 unfold Lib.itoa a4h
 split
 · rw [a5t];congr 2;omega
 · rw [a5t]
end Go.KP
namespace Go.Proofs
open Go.PW Go.KP Go.RowKit
class GH extends GF where
 m:Int
 hm:(0,0,Value.int .i64 m)∈gs
 T10:TypeId
 z10:Nat×Nat
 h10:(3,Obj.cells (Lib.pow10Tab.map fun z=>Value.int .u64 z).toArray T10 z10)∈bs
 ts:TypeId
 ps:Value
 hs:(4,0,Value.iface ts ps)∈gs
 tr:TypeId
 pr:Value
 hr:(5,0,Value.iface tr pr)∈gs
variable [GH]
theorem Z5 (t:Tx):(bs t).data.toList=t:=by simp [bs]
theorem a94 {B:Nat} (w:World) (n:Nat):Below B w (w.drewN n):=⟨rfl,rfl,rfl,Nat.le_refl _,fun _ _=>rfl⟩
theorem b99 {B:Nat} (w:World) (os:Array Obj) (h:B≤w.heap.size):Below B w (Go.Sort.grow w os):=
 ⟨rfl,rfl,rfl,by simp [Go.Sort.grow],fun k hk=>by simp [Go.Sort.grow,Array.getElem?_append,Nat.lt_of_lt_of_le hk h]⟩
theorem b2q (t:Tx) (c:UInt8) (ht:t.length < 4294967281):z6 Tryz.prog 153 [.val (tx t),.val (tx [c])] (.ret (.tup [.val (tx (F6 t c)),.val (tx (O8 t c)),.val (.bool (decide (c∈t)))]) []) []:=by
 refine b2k (rs:=[tx t,tx [c]]) (qs:=[tx (F6 t c),tx (O8 t c),.bool (decide (c∈t))]) (vals:=[.string (bs t),.string (bs [c])]) (us:=[.string (bs (F6 t c)),.string (bs (O8 t c)),.bool (decide (c∈t))]) rfl rfl fun L w hgl hgb=>?_
 refine (Tryz.strings_Cut (bs t) (bs [c]) GH.m w (by rw [b7];exact ht) (hgl _ GH.hm).2).mono fun e w' ⟨he,n,hw⟩=>?_
 rw [Z5,Z5,c47] at he
 exact ⟨he,hw ▸ a94 w n⟩
theorem b7y (t p:Tx):z6 Tryz.prog 248 [.val (tx t),.val (tx p)] (.ret (.tup [.val (tx (if p.isPrefixOf t then t.drop p.length else t)),.val (.bool (p.isPrefixOf t))]) []) []:=by
 refine b2k (rs:=[tx t,tx p]) (qs:=[tx (if p.isPrefixOf t then t.drop p.length else t),.bool (p.isPrefixOf t)]) (vals:=[.string (bs t),.string (bs p)]) (us:=[.string (bs (if p.isPrefixOf t then t.drop p.length else t)),.bool (p.isPrefixOf t)]) rfl rfl fun L w hgl hgb=>?_
 refine (Tryz.strings_CutPrefix (bs t) (bs p) w).mono fun e w' ⟨he,hw⟩=>?_
 rw [Z5,Z5] at he
 exact ⟨he,a3n hw⟩
theorem a3z (t:Tx) (c:UInt8):z6 Tryz.prog 231 [.val (tx t),.val (rvb c)] (.ret (.val (num (if c∈t then (P4 t c:Int) else -1))) []) []:=by
 refine a18 (rs:=[tx t,rvb c]) (vals:=[.string (bs t),.int .u8 c.toNat]) (v:=.int .i64 (if c∈t then (P4 t c:Int) else -1)) rfl rfl fun L w hgl hgb=>?_
 refine (Tryz.strings_IndexByte (bs t) c.toNat w).mono fun e w' ⟨he,hw⟩=>?_
 rw [Z5,Lib.byte_back,a5n] at he
 exact ⟨he,a3n hw⟩
theorem a5y (t p:Tx):z6 Tryz.prog 228 [.val (tx t),.val (tx p)] (.ret (.val (.bool (p.isPrefixOf t))) []) []:=by
 refine a18 (rs:=[tx t,tx p]) (vals:=[.string (bs t),.string (bs p)]) (v:=.bool (p.isPrefixOf t)) rfl rfl fun L w hgl hgb=>?_
 refine (Tryz.strings_HasPrefix (bs t) (bs p) w).mono fun e w' ⟨he,hw⟩=>?_
 rw [Z5,Z5] at he
 exact ⟨he,a3n hw⟩
theorem b97 (t:Tx) (c:UInt8):z6 Tryz.prog 275 [.val (tx t),.val (tx [c])] (.ret (.val (.bool (decide (c∈t)))) []) []:=by
 refine a18 (rs:=[tx t,tx [c]]) (vals:=[.string (bs t),.string (bs [c])]) (v:=.bool (decide (c∈t))) rfl rfl fun L w hgl hgb=>?_
 refine (Tryz.strings_Contains_one (bs t) c w).mono fun e w' ⟨he,hw⟩=>?_
 rw [Z5,a5n] at he
 have e1:decide (0≤(if c∈t then (P4 t c:Int) else -1))=decide (c∈t):=by
  by_cases h:c∈t
  · rw [if_pos h,decide_eq_true h,decide_eq_true (by omega)]
  · rw [if_neg h,decide_eq_false h];rfl
 rw [e1] at he
 exact ⟨he,a3n hw⟩
theorem a95 {t:Tx} (h:U0 t=true):∀ (j:Nat) b,(bs t).data.toList[j]?=some b→b.toNat < 128:=fun j b hb=>by
 rw [Z5] at hb
 unfold U0 at h
 rw [List.all_eq_true] at h
 have:=h b (List.mem_of_getElem? hb)
 simp at this
 omega
theorem a62 (t wo:Tx) (ht:t.length < 4294967281) (hw:wo.length < 4294967281) (h1:U0 t=true) (h2:U0 wo=true):z6 Tryz.prog 154 [.val (tx t),.val (tx wo)] (.ret (.val (.bool (T9 t wo))) []) []:=by
 refine a18 (rs:=[tx t,tx wo]) (vals:=[.string (bs t),.string (bs wo)]) (v:=.bool (T9 t wo)) rfl rfl fun L w hgl hgb=>?_
 refine (Tryz.strings_ContainsAny_laid (bs t) (bs wo) w (by rw [b7];exact ht) (by rw [b7];exact hw) (a95 h1) (a95 h2)).mono fun e w' ⟨he,hw⟩=>?_
 rw [Z5,Z5,b2e] at he
 exact ⟨he,hw⟩
theorem c5k (n:Int) (h0:-9223372036854775808≤n) (h1:n≤9223372036854775807):z6 Tryz.prog 183 [.val (num n)] (.ret (.val (tx (a4h n))) []) []:=by
 refine a18 (rs:=[num n]) (vals:=[.int .i64 n]) (v:=.string (bs (a4h n))) rfl rfl fun L w hgl hgb=>?_
 have htab:Lib.TabIs Tryz.prog w "internal/strconv.uint64pow10" .u64 Lib.pow10Tab:=by
  unfold Lib.TabIs World.var?
  have e:Tryz.prog.globalNamed "internal/strconv.uint64pow10" = some 3:=by kernel_rfl
  rw [e]
  simp only [Option.bind_some]
  rw [(hgb _ GH.h10).2]
 refine (Tryz.strconv_Itoa n h0 h1 w htab).mono fun e w' ⟨he,k,os,hw⟩=>?_
 rw [c2a] at he
 exact ⟨he,hw ▸ (a94 w k).trans (b99 _ _ (Nat.le_refl _))⟩
end Go.Proofs
end
section
namespace Go.Proofs
open Go.PW Go.KP
attribute [local simp] RV.cells RV.one PV.cells PV.solid PV.one N3 b8 O9 P0 RV.ofCells elems PV.killL
section
variable [GF]
theorem a0n (a lo hi:Int):z6 Tryz.prog 106 [.val (num a),.val (num lo),.val (num hi)] (.ret (.val (.bool (decide (lo≤a∧a≤hi)))) []) []:=by
 refine K4 mixed ok106 rfl (fun _=>rfl) ?_
 unfold ir106
 rw [d9]
 by_cases h:lo≤a
 · simp [w8,J8,P1,b9,q8,num,h]
 · simp [w8,J8,P1,b9,q8,num,h]
theorem c4u (b:Bool) (n:Int):z6 Tryz.prog 125 [.val (.bool b),.val (num n)] (.ret (.val (num (if b then 0 else n))) []) []:=by
 refine K4 mixed ok125 rfl (fun _=>rfl) ?_
 unfold ir125
 rw [d9]
 cases b<;>simp [w8,J8,P1,b9,q8,num]
theorem c4x (t:Tx):z6 Tryz.prog 84 [.val (tx t)] (.ret (.val (num (if t.length≤65536 then 0 else 2))) []) []:=by
 refine K4 mixed ok84 rfl (fun _=>rfl) ?_
 unfold ir84
 rw [d9]
 have e:decide ((t.length:Int)≤65536)=decide (t.length≤65536):=by
  by_cases h:t.length≤65536
  · rw [decide_eq_true h,decide_eq_true (by omega)]
  · rw [decide_eq_false h,decide_eq_false (by omega)]
 simp [w8,J8,P1,b9,q8,tx,b7,e]
 refine f6 rfl rfl (.inl rfl) (c4u (decide (t.length≤65536)) 2) ?_
 simp [num]
theorem b31 (c:UInt8):z6 Tryz.prog 138 [.val (rvb c)] (.ret (.val (.bool (V7 c))) []) []:=by
 refine K4 mixed ok138 rfl (fun _=>rfl) ?_
 unfold ir138
 rw [d9]
 have e1:((97:Int)≤c.toNat)↔97≤c.toNat:=by omega
 have e2:((c.toNat:Int)≤122)↔c.toNat≤122:=by omega
 by_cases h:97≤c.toNat
 · simp [w8,J8,P1,b9,q8,rvb,V7,h,e1,e2]
 · simp [w8,J8,P1,b9,q8,rvb,V7,h,e1,e2]
theorem a88 (c:UInt8):z6 Tryz.prog 260 [.val (rvb c)] (.ret (.val (.bool (P8 c))) []) []:=by
 refine K4 mixed ok260 rfl (fun _=>rfl) ?_
 unfold ir260
 rw [d9]
 have e1:((48:Int)≤c.toNat)↔48≤c.toNat:=by omega
 have e2:((c.toNat:Int)≤57)↔c.toNat≤57:=by omega
 by_cases h:48≤c.toNat
 · simp [w8,J8,P1,b9,q8,rvb,P8,h,e1,e2]
 · simp [w8,J8,P1,b9,q8,rvb,P8,h,e1,e2]
theorem b68 (u:LUrl):z6 Tryz.prog 156 [.val (W5 u)] (.ret (.val (.bool (a0b u.scheme))) []) []:=by
 refine K4 mixed ok156 rfl (fun _=>rfl) ?_
 unfold ir156
 rw [d9]
 have e1:(⟨#[104,116,116,112]⟩:ByteArray)=bs a48:=rfl
 have e2:(⟨#[104,116,116,112,115]⟩:ByteArray)=bs a64:=rfl
 by_cases h:u.scheme=a48
 · simp [w8,J8,P1,b9,q8,W5,tx,num,e1,e2,R3,a0b,h]
 · by_cases h':u.scheme=a64
   · simp [w8,J8,P1,b9,q8,W5,tx,num,e1,e2,R3,a0b,h',show ¬ a64=a48 by decide]
   · simp [w8,J8,P1,b9,q8,W5,tx,num,e1,e2,R3,a0b,h,h']
theorem c02 (t:Tx):z6 Tryz.prog 250 [.val (tx t)] (.ret (.val (num (Y5 t))) []) []:=by
 refine K4 mixed ok250 rfl (fun _=>rfl) ?_
 unfold ir250
 rw [d9]
 have e1:(⟨#[104,116,116,112]⟩:ByteArray)=bs a48:=rfl
 by_cases h:t=a48
 · simp [w8,J8,P1,b9,q8,tx,e1,R3,Y5,h,num]
 · simp [w8,J8,P1,b9,q8,tx,e1,R3,Y5,h,num]
theorem b9g (t:Tx) (ht:t.length < 1099511627776):z6 Tryz.prog 273 [.val (tx t)] (.ret (.val (.bool (U0 t))) []) []:=by
 refine K4 mixed ok273 rfl (fun _=>rfl) ?_
 unfold ir273
 rw [d9]
 simp [w8,J8,P1,b9,q8,tx,b7]
 refine S1 (X:=Nat) (fun i=>⟨S7 [(0,.val (tx t)),(5,.val (num t.length)),(6,.val (num i))],S0 []⟩) (fun i=>i≤t.length∧U0 (t.take i)=true) (fun i=>t.length - i) 0 (Le.mk _ _ ?_ ?_) ?_ ?_
 · simp [upd,num,tx]
 · simp
 · simp [U0]
 · rintro i ⟨hi,hinv⟩
   simp [num,tx]
   refine O5 (fun h1=>?_) (fun h1=>?_)
   · simp [tx,num,b7,z1,h1]
     have hw:IntKind.i64.wrap (t[i].toNat:Int)=(t[i].toNat:Int):=wrap_i64 (by omega) (by have:=t[i].toNat_lt;omega)
     refine f6 rfl rfl (.inl rfl) (by rw [hw];exact a0n (t[i].toNat:Int) 33 126) ?_
     have e:decide ((33:Int)≤(t[i].toNat:Int)∧(t[i].toNat:Int)≤126)=decide (33≤t[i].toNat∧t[i].toNat≤126):=by
      by_cases h:33≤t[i].toNat∧t[i].toNat≤126
      · rw [decide_eq_true h,decide_eq_true (by omega)]
      · rw [decide_eq_false h,decide_eq_false (by omega)]
     rw [e]
     have hs:U0 (t.take (i+1))=(U0 (t.take i) && decide (33≤t[i].toNat∧t[i].toNat≤126)):=a06 _ _ _ h1
     cases hd:decide (33≤t[i].toNat∧t[i].toNat≤126) with
     | true=>
      simp
      refine LoopNext.mk (i+1) ⟨by omega,?_⟩ (by omega) (Le.mk _ _ ?_ ?_)
      · rw [hs,hinv,hd];rfl
      · simp [num,tx];exact wrap_i64 (by omega) (by omega)
      · simp
     | false=>
      have:U0 t=false:=by
       unfold U0
       rw [List.all_eq_false]
       exact ⟨t[i],List.getElem_mem h1,by rw [hd];simp⟩
      rw [this]
      simp
   · have e:i=t.length:=by omega
     subst e
     rw [List.take_length] at hinv
     simp [hinv]
def a7r (i:Nat) (c:UInt8):Bool:=decide (i=0) || (!P8 c && !decide (c.toNat=45) && !decide (c.toNat=43) && !decide (c.toNat=46))
theorem sch_eq (i:Nat) (c:UInt8):(!V7 c && a7r i c)=!(if i=0 then V7 c else W3 c):=by
 unfold a7r W3
 have e:decide (c.toNat=45∨c.toNat=43∨c.toNat=46)=(decide (c.toNat=45) || decide (c.toNat=43) || decide (c.toNat=46)):=by
  by_cases h1:c.toNat=45<;>by_cases h2:c.toNat=43<;>by_cases h3:c.toNat=46<;>simp [h1,h2,h3]
 rw [e]
 by_cases h:i=0
 · simp [h]
 · simp only [h,decide_false,Bool.false_or,if_false]
   cases V7 c<;>cases P8 c<;>cases decide (c.toNat=45)<;>cases decide (c.toNat=43)<;>cases decide (c.toNat=46)<;>rfl
structure SS (st:St) (t:Tx) (i m:Nat) (c:UInt8):Prop where
 e0:st.env 0=.val (tx t)
 e3:st.env 3=.val (num i)
 e4:st.env 4=.val (rvb c)
 e7:st.env 7=.val (num m)
 e8:st.env 8=.val (num i)
theorem sops18 {Ks:Kx (St→Prop)} {kx:Kx (RV→St→Prop)} {st:St} {t:Tx} {i m:Nat} {c:UInt8} {b:Bool} (h:SS st t i m c) (hb:st.env 17=.val (.bool b)) (hK:∀ st',SS st' t i m c→st'.env 37=.val (.bool (b && a7r i c))→Ks.k st'):EO Tryz.prog ir272_o18 st (Ks:=Ks) (kx:=kx):=by
 unfold ir272_o18
 cases b with
 | false=>
  simp [hb]
  refine hK _ ⟨?_,?_,?_,?_,?_⟩ ?_<;>simp [h.e0,h.e3,h.e4,h.e7,h.e8]
 | true=>
  by_cases h0:i=0
  · subst h0
    simp [hb,h.e3,num]
    refine hK _ ⟨?_,?_,?_,?_,?_⟩ ?_<;>simp [h.e0,h.e3,h.e4,h.e7,h.e8,a7r]
  · simp [hb,h.e3,h.e4,num,h0,rvb]
    refine f6 rfl rfl (.inl rfl) (a88 c) ?_
    have e3:((c.toNat:Int)=45)↔c.toNat=45:=by omega
    have e4:((c.toNat:Int)=43)↔c.toNat=43:=by omega
    have e5:((c.toNat:Int)=46)↔c.toNat=46:=by omega
    cases hd:P8 c with
    | true=>
     simp [hb,h.e3,h.e4,rvb,h0]
     refine hK _ ⟨?_,?_,?_,?_,?_⟩ ?_<;>simp [h.e0,h.e3,h.e4,h.e7,h.e8,a7r,h0,hd,num,rvb]
    | false=>
     by_cases h1:c.toNat=45
     · simp [hb,h.e3,h.e4,rvb,h0,e3,e4,e5,h1]
       refine hK _ ⟨?_,?_,?_,?_,?_⟩ ?_<;>simp [h.e0,h.e3,h.e4,h.e7,h.e8,a7r,h0,hd,h1,num,rvb]
     · by_cases h2:c.toNat=43
       · simp [hb,h.e3,h.e4,rvb,h0,e3,e4,e5,h1,h2]
         refine hK _ ⟨?_,?_,?_,?_,?_⟩ ?_<;>simp [h.e0,h.e3,h.e4,h.e7,h.e8,a7r,h0,hd,h1,h2,num,rvb]
       · by_cases h3:c.toNat=46
         · simp [hb,h.e3,h.e4,rvb,h0,e3,e4,e5,h1,h2,h3]
           refine hK _ ⟨?_,?_,?_,?_,?_⟩ ?_<;>simp [h.e0,h.e3,h.e4,h.e7,h.e8,a7r,h0,hd,h1,h2,h3,num,rvb]
         · have e3':¬ ((c.toNat:Int)=45):=by omega
           have e4':¬ ((c.toNat:Int)=43):=by omega
           have e5':¬ ((c.toNat:Int)=46):=by omega
           simp [hb,h.e3,h.e4,rvb,h0,e3,e4,e5,h1,h2,h3]
           refine hK _ ⟨?_,?_,?_,?_,?_⟩ ?_<;>simp [h.e0,h.e3,h.e4,h.e7,h.e8,a7r,h0,hd,h1,h2,h3,num,rvb,e5']
theorem b9f (t:Tx) (ht:t.length < 1099511627776):z6 Tryz.prog 272 [.val (tx t)] (.ret (.val (.bool (V9 t))) []) []:=by
 refine K4 mixed ok272 rfl (fun _=>rfl) ?_
 unfold ir272
 rw [d9]
 have hmn:(if (13:Int) < (t.length:Int) then 13 else (t.length:Int))=((min t.length 13:Nat):Int):=by split<;>omega
 simp [w8,J8,P1,b9,q8,tx,b7,hmn]
 refine S1 (X:=Nat) (fun i=>⟨S7 [(0,.val (tx t)),(7,.val (num (min t.length 13:Nat))),(8,.val (num i))],S0 []⟩) (fun i=>i≤min t.length 13∧a2r (t.take i)=true) (fun i=>t.length - i) 0 (Le.mk _ _ ?_ ?_) ?_ ?_
 · simp [upd,num,tx]
 · simp
 · simp [a2r]
 · rintro i ⟨hi,hinv⟩
   have hib:((i:Int) < ((min t.length 13:Nat):Int))↔i < min t.length 13:=by omega
   unfold ir272_l9
   by_cases h1:i < min t.length 13
   · have h1t:i < t.length:=by omega
     have h1':i < t.length∧i < 13:=by omega
     simp [num,tx,hib,h1,h1'.1,h1'.2,b7,z1]
     refine f6 rfl rfl (.inl rfl) (b31 t[i]) ?_
     simp
     refine sops18 (t:=t) (i:=i) (m:=min t.length 13) (c:=t[i]) (b:=!V7 t[i]) ⟨?_,?_,?_,?_,?_⟩ ?_ (fun st' q1 q2=>?_)
     · simp [tx]
     · simp [num]
     · simp [rvb]
     · simp [num]
     · simp [num]
     · simp
     · rw [sch_eq] at q2
       simp only [x4,F1,x6,E9,x7,p9,x5,F0,j5,A1,F8,F9,d8,o0,o9,i8,x8,p8,j4,E8,x1,p7,p6,C9,D0,T4,T5,Option.getD_some,Option.getD_none,B6,q9,l8,C6,l7,l1,C8,l2,C7,C5,C4,G5,u6,l5,C2,t8,l4,C1,B4,C3,u0,B9,k8,t7,C0,G7,G6,B5,B7,l3,B8,u7,l6,A4,j7,B3,B2,B1,G0,s9,j9,A9,s0,j8,A8,A2,B0,s8,A6,j6,r9,A7,G4,G3,A3,r8,k7,A5,t6,k6,I3,I2,J4,I4,I8,I6,I5,J3,I7,I9,J0,J1,J2,y7,y6,x9,K5,K6,F7,F2,r5,D4,v6,J6,q7,O0,K9,J7,M3,M5,M4,O1,O2,H5,H7,H6,H8,H9,L9,v8,L8,D5,D6,D7,w5,T6,E5,w9,N8,N9,G8,K7,K8,Option.map_some,Option.map_none,D8,w6,u9,l9,D2,D3,H0,G9,N0,M9,I1,E6,E7,I0,M6,M7,H1,n7,H2,n0,L4,E4,E3,j3,M2,M8,H4,L5,L7,L6,v7,z7,A0,z8,f7,M1,O4,O3,L2,H3,Q1,L3,n8,E1,E2,w7,D9,i7,r6,i6,r7,f8,J5,N1,N2,y8,y9,F4,F3,D1,q2]
       have hsucc:=a9j t i h1t
       cases hgood:(if i=0 then V7 t[i] else W3 t[i]) with
       | true=>
        refine O5 (fun h=>by simp at h) (fun _=>?_)
        simp [q1.e8,num]
        refine LoopNext.mk (i+1) ⟨by omega,?_⟩ (by omega) (Le.mk _ _ ?_ ?_)
        · rw [hsucc,hinv,hgood];rfl
        · simp [num,tx,q1.e0,q1.e7];exact wrap_i64 (by omega) (by omega)
        · simp
       | false=>
        refine O5 (fun _=>?_) (fun h=>by simp at h)
        have:V9 t=false:=by
         unfold V9
         rw [a7q t i h1t hgood,Bool.and_false]
        rw [this]
        simp
   · have e:i=min t.length 13:=by omega
     simp [num,tx,hib,h1,b7]
     refine f6 rfl rfl (.inl rfl) (a0n t.length 1 12) ?_
     have:V9 t=decide ((1:Int)≤(t.length:Int)∧(t.length:Int)≤12):=by
      unfold V9
      by_cases hl:t.length≤12
      · have:i=t.length:=by omega
        subst this
        rw [List.take_length] at hinv
        rw [hinv,Bool.and_true]
        by_cases h0:1≤t.length
        · rw [decide_eq_true (by omega),decide_eq_true (by omega)]
        · rw [decide_eq_false (by omega),decide_eq_false (by omega)]
      · rw [decide_eq_false (by omega),decide_eq_false (by omega)];rfl
     rw [this]
     simp
end
section
variable [GH]
theorem c2f (n:Int) (h0:-9223372036854775808≤n) (h1:n≤9223372036854775807):z6 Tryz.prog 120 [.val (num n)] (.ret (.val (tx (a4h n))) []) []:=by
 refine K4 mixed ok120 rfl (fun _=>rfl) ?_
 unfold ir120
 rw [d9]
 simp [w8,J8,P1,b9,q8,num]
 refine f6 rfl rfl (.inl rfl) (c5k n h0 h1) ?_
 simp
end
end Go.Proofs
end
section
namespace Go.Proofs
open Go.PW Go.KP
variable [GF]
structure HS (st:St) (t:Tx) (i:Nat) (c:UInt8):Prop where
 e0:st.env 0=.val (tx t)
 e3:st.env 3=.val (num i)
 e4:st.env 4=.val (rvb c)
 e6:st.env 6=.val (num t.length)
 e7:st.env 7=.val (num i)
section
variable {Ks:Kx (St→Prop)} {kx:Kx (RV→St→Prop)} {st:St} {t:Tx} {i:Nat} {c:UInt8} {b:Bool}
def c2j (t:Tx) (i:Nat):Bool:=decide ((t.getD (i - 1) 0).toNat=46)
theorem b9j (hi:i < t.length) (hl:t.length < 1099511627776) (h:HS st t i c) (hb:st.env 43=.val (.bool b)) (h0:b=false→i≠0) (hK:∀ st',HS st' t i c→st'.env 49=.val (.bool (b || c2j t i))→Ks.k st'):EO Tryz.prog ir274_o44 st (Ks:=Ks) (kx:=kx):=by
 unfold ir274_o44
 cases b with
 | true=>
  simp [hb]
  refine hK _ ⟨?_,?_,?_,?_,?_⟩ ?_<;>simp [h.e0,h.e3,h.e4,h.e6,h.e7]
 | false=>
  have hi0:=h0 rfl
  have hw:IntKind.i64.wrap ((i:Int) - 1)=((i - 1:Nat):Int):=by rw [wrap_i64 (by omega) (by omega)];omega
  have hi1:i - 1 < t.length:=by omega
  have e46:((t[i - 1].toNat:Int)=46)↔t[i - 1].toNat=46:=by omega
  by_cases h1:t[i - 1].toNat=46
  · simp [hb,h.e0,h.e3,h.e4,h.e6,h.e7,tx,num,rvb,b7,z1,hw,hi1,e46,h1]
    refine hK _ ⟨?_,?_,?_,?_,?_⟩ ?_<;>simp [h.e0,h.e3,h.e4,h.e6,h.e7,tx,num,rvb,c2j,List.getElem?_eq_getElem hi1,h1]
  · have h1':((t[i - 1].toNat:Int) == 46)=false:=by simp;omega
    simp [hb,h.e0,h.e3,h.e4,h.e6,h.e7,tx,num,rvb,b7,z1,hw,hi1,e46,h1,h1']
    refine hK _ ⟨?_,?_,?_,?_,?_⟩ ?_<;>simp [h.e0,h.e3,h.e4,h.e6,h.e7,tx,num,rvb,c2j,List.getElem?_eq_getElem hi1,h1,h1']
def c2k (t:Tx) (i:Nat):Bool:=decide ((t.getD (i - 1) 0).toNat=45) || c2j t i
theorem b9k (hi:i < t.length) (hl:t.length < 1099511627776) (h:HS st t i c) (hb:st.env 36=.val (.bool b)) (h0:b=false→i≠0) (hK:∀ st',HS st' t i c→st'.env 49=.val (.bool (b || c2k t i))→Ks.k st'):EO Tryz.prog ir274_o37 st (Ks:=Ks) (kx:=kx):=by
 unfold ir274_o37
 cases b with
 | true=>
  simp [hb]
  refine b9j (b:=true) (t:=t) (i:=i) (c:=c) hi hl ⟨?_,?_,?_,?_,?_⟩ ?_ (by simp) (fun st' q1 q2=>hK st' q1 (by simpa using q2))<;>simp [h.e0,h.e3,h.e4,h.e6,h.e7]
 | false=>
  have hi0:=h0 rfl
  have hw:IntKind.i64.wrap ((i:Int) - 1)=((i - 1:Nat):Int):=by rw [wrap_i64 (by omega) (by omega)];omega
  have hi1:i - 1 < t.length:=by omega
  have e46:((t[i - 1].toNat:Int)=45)↔t[i - 1].toNat=45:=by omega
  by_cases h1:t[i - 1].toNat=45
  · simp [hb,h.e0,h.e3,h.e4,h.e6,h.e7,tx,num,rvb,b7,z1,hw,hi1,e46,h1]
    refine b9j (b:=true) (t:=t) (i:=i) (c:=c) hi hl ⟨?_,?_,?_,?_,?_⟩ ?_ (by simp) (fun st' q1 q2=>hK st' q1 (by rw [q2];simp [c2k,List.getElem?_eq_getElem hi1,h1]))<;>simp [h.e0,h.e3,h.e4,h.e6,h.e7,tx,num,rvb]
  · have h1':((t[i - 1].toNat:Int) == 45)=false:=by simp;omega
    simp [hb,h.e0,h.e3,h.e4,h.e6,h.e7,tx,num,rvb,b7,z1,hw,hi1,e46,h1,h1']
    refine b9j (b:=false) (t:=t) (i:=i) (c:=c) hi hl ⟨?_,?_,?_,?_,?_⟩ ?_ (fun _=>hi0) (fun st' q1 q2=>hK st' q1 (by rw [q2];simp [c2k,List.getElem?_eq_getElem hi1,h1]))<;>simp [h.e0,h.e3,h.e4,h.e6,h.e7,tx,num,rvb]
def c2l (t:Tx) (i:Nat):Bool:=decide (i=t.length - 1) || c2k t i
theorem b9l (hi:i < t.length) (hl:t.length < 1099511627776) (h:HS st t i c) (hb:st.env 29=.val (.bool b)) (h0:b=false→i≠0) (hK:∀ st',HS st' t i c→st'.env 49=.val (.bool (b || c2l t i))→Ks.k st'):EO Tryz.prog ir274_o30 st (Ks:=Ks) (kx:=kx):=by
 unfold ir274_o30
 cases b with
 | true=>
  simp [hb]
  refine b9k (b:=true) (t:=t) (i:=i) (c:=c) hi hl ⟨?_,?_,?_,?_,?_⟩ ?_ (by simp) (fun st' q1 q2=>hK st' q1 (by simpa using q2))<;>simp [h.e0,h.e3,h.e4,h.e6,h.e7]
 | false=>
  have hi0:=h0 rfl
  have hw:IntKind.i64.wrap ((t.length:Int) - 1)=((t.length - 1:Nat):Int):=by rw [wrap_i64 (by omega) (by omega)];omega
  have e:((i:Int) == ((t.length - 1:Nat):Int))=decide (i=t.length - 1):=by
   rw [Bool.eq_iff_iff];simp;omega
  simp only [x4,F1,x6,E9,x7,p9,x5,F0,j5,A1,F8,F9,d8,o0,o9,i8,x8,p8,j4,E8,x1,p7,p6,C9,D0,T4,T5,Option.getD_some,Option.getD_none,B6,q9,l8,C6,l7,l1,C8,l2,C7,C5,C4,G5,u6,l5,C2,t8,l4,C1,B4,C3,u0,B9,k8,t7,C0,G7,G6,B5,B7,l3,B8,u7,l6,A4,j7,B3,B2,B1,G0,s9,j9,A9,s0,j8,A8,A2,B0,s8,A6,j6,r9,A7,G4,G3,A3,r8,k7,A5,t6,k6,I3,I2,J4,I4,I8,I6,I5,J3,I7,I9,J0,J1,J2,y7,y6,x9,K5,K6,F7,F2,r5,D4,v6,J6,q7,O0,K9,J7,M3,M5,M4,O1,O2,H5,H7,H6,H8,H9,L9,v8,L8,D5,D6,D7,w5,T6,E5,w9,N8,N9,G8,K7,K8,Option.map_some,Option.map_none,D8,w6,u9,l9,D2,D3,H0,G9,N0,M9,I1,E6,E7,I0,M6,M7,H1,n7,H2,n0,L4,E4,E3,j3,M2,M8,H4,L5,L7,L6,v7,z7,A0,z8,f7,M1,O4,O3,L2,H3,Q1,L3,n8,E1,E2,w7,D9,i7,r6,i6,r7,f8,J5,N1,N2,y8,y9,F4,F3,D1,hb,h.e0,h.e3,h.e4,h.e6,h.e7,tx,num,rvb,b7,hw,e]
  refine O5 (fun _=>?_) (fun h=>absurd rfl h)
  by_cases h1:i=t.length - 1
  · simp [hb,h.e0,h.e3,h.e4,h.e6,h.e7,tx,num,rvb,b7,hw,e,(eq_true h1:(i=t.length - 1)=True)]
    refine b9k (b:=true) (t:=t) (i:=i) (c:=c) hi hl ⟨?_,?_,?_,?_,?_⟩ ?_ (by simp) (fun st' q1 q2=>hK st' q1 (by rw [q2];simp [c2l,(eq_true h1:(i=t.length - 1)=True)]))<;>simp [h.e0,h.e3,h.e4,h.e6,h.e7,tx,num,rvb]
  · simp [hb,h.e0,h.e3,h.e4,h.e6,h.e7,tx,num,rvb,b7,hw,e,h1]
    refine b9k (b:=false) (t:=t) (i:=i) (c:=c) hi hl ⟨?_,?_,?_,?_,?_⟩ ?_ (fun _=>hi0) (fun st' q1 q2=>hK st' q1 (by rw [q2];simp [c2l,h1]))<;>simp [h.e0,h.e3,h.e4,h.e6,h.e7,tx,num,rvb]
def b3c (t:Tx) (i:Nat):Bool:=decide (i=0) || c2l t i
theorem b9m (hi:i < t.length) (hl:t.length < 1099511627776) (h:HS st t i c) (hb:st.env 25=.val (.bool b)) (hK:∀ st',HS st' t i c→st'.env 49=.val (.bool (b || b3c t i))→Ks.k st'):EO Tryz.prog ir274_o26 st (Ks:=Ks) (kx:=kx):=by
 unfold ir274_o26
 cases b with
 | true=>
  simp [hb]
  refine b9l (b:=true) (t:=t) (i:=i) (c:=c) hi hl ⟨?_,?_,?_,?_,?_⟩ ?_ (by simp) (fun st' q1 q2=>hK st' q1 (by simpa using q2))<;>simp [h.e0,h.e3,h.e4,h.e6,h.e7]
 | false=>
  by_cases h1:i=0
  · subst h1
    simp [hb,h.e0,h.e3,h.e4,h.e6,h.e7,tx,num,rvb,b7]
    refine b9l (b:=true) (t:=t) (i:=0) (c:=c) hi hl ⟨?_,?_,?_,?_,?_⟩ ?_ (by simp) (fun st' q1 q2=>hK st' q1 (by rw [q2];simp [b3c]))<;>simp [h.e0,h.e3,h.e4,h.e6,h.e7,tx,num,rvb]
  · simp [hb,h.e0,h.e3,h.e4,h.e6,h.e7,tx,num,rvb,b7,h1]
    refine b9l (b:=false) (t:=t) (i:=i) (c:=c) hi hl ⟨?_,?_,?_,?_,?_⟩ ?_ (fun _=>h1) (fun st' q1 q2=>hK st' q1 (by rw [q2];simp [b3c,h1]))<;>simp [h.e0,h.e3,h.e4,h.e6,h.e7,tx,num,rvb,h1]
end
def a2x (t:Tx) (i:Nat) (c:UInt8):Bool:=(!decide (c.toNat=45) && !decide (c.toNat=46)) || b3c t i
theorem c42 {K:Kx (PExit→St→Prop)} {st:St} {t:Tx} {i:Nat} {c:UInt8} (hi:i < t.length) (hl:t.length < 1099511627776) (h:HS st t i c)
 (hR:a2x t i c=true→∀ st',st'.env 2=.val (.bool false)→K.k .ret st') (hN:a2x t i c=false→∀ st',HS st' t i c→K.k .normal st'):EC Tryz.prog ir274_s19 st (K:=K):=by
 unfold ir274_s19
 have hend:∀ b,b=(!decide (c.toNat=45) && !decide (c.toNat=46))→∀ st':St,HS st' t i c→st'.env 49=.val (.bool (b || b3c t i)) →
  CD (st'.env 49) (A:=⟨EC Tryz.prog (.seq (.reg [⟨some 2,.mov (.k (.val (.bool false))),none⟩]) .ret) st' (K:=K)⟩) (B:=⟨EC Tryz.prog .skip st' (K:=K)⟩):=by
  intro b hb st' q1 q2
  rw [q2]
  have e:(b || b3c t i)=a2x t i c:=by rw [hb];rfl
  rw [e]
  cases hbd:a2x t i c with
  | true=>
   simp
   exact hR hbd _ (by simp)
  | false=>
   simp
   exact hN hbd _ q1
 have e3:((c.toNat:Int)=45)↔c.toNat=45:=by omega
 have e5:((c.toNat:Int)=46)↔c.toNat=46:=by omega
 by_cases h1:c.toNat=45
 · simp [h.e0,h.e3,h.e4,h.e6,h.e7,tx,num,rvb,e3,e5,h1]
   refine b9m (b:=false) (t:=t) (i:=i) (c:=c) hi hl ⟨?_,?_,?_,?_,?_⟩ ?_ (fun st' q1 q2=>hend false (by simp [h1]) st' q1 q2)<;>simp [h.e0,h.e3,h.e4,h.e6,h.e7,tx,num,rvb,h1]
 · by_cases h2:c.toNat=46
   · simp [h.e0,h.e3,h.e4,h.e6,h.e7,tx,num,rvb,e3,e5,h1,h2]
     refine b9m (b:=false) (t:=t) (i:=i) (c:=c) hi hl ⟨?_,?_,?_,?_,?_⟩ ?_ (fun st' q1 q2=>hend false (by simp [h2]) st' q1 q2)<;>simp [h.e0,h.e3,h.e4,h.e6,h.e7,tx,num,rvb,h2]
   · have h2':((c.toNat:Int) == 46)=false:=by simp;omega
     simp [h.e0,h.e3,h.e4,h.e6,h.e7,tx,num,rvb,e3,e5,h1,h2,h2']
     refine b9m (b:=true) (t:=t) (i:=i) (c:=c) hi hl ⟨?_,?_,?_,?_,?_⟩ ?_ (fun st' q1 q2=>hend true (by simp [h1,h2]) st' q1 q2)<;>simp [h.e0,h.e3,h.e4,h.e6,h.e7,tx,num,rvb,h1,h2]
     all_goals omega
def a01 (c:UInt8):Bool:=V7 c || P8 c
def a1c (t:Tx) (i:Nat):Bool:=decide (i=0) || !a01 (t.getD (i - 1) 0)
theorem b1e {c:UInt8} (h:c.toNat=45∨c.toNat=46):a01 c=false:=by
 unfold a01 V7 P8
 rcases h with h | h<;>simp [h]
theorem c4z (t:Tx) (ht:t.length < 1099511627776):z6 Tryz.prog 274 [.val (tx t)] (.ret (.val (.bool (a00 t))) []) []:=by
 refine K4 mixed ok274 rfl (fun _=>rfl) ?_
 unfold ir274
 rw [d9]
 simp [w8,J8,P1,b9,q8,tx,b7]
 refine S1 (X:=Nat) (fun i=>⟨S7 [(0,.val (tx t)),(6,.val (num t.length)),(7,.val (num i))],S0 []⟩) (fun i=>i≤t.length∧a00 t=V4 (a1c t i) (t.drop i)∧(0 < i→a01 (t.getD (i - 1) 0)=true∨((t.getD (i - 1) 0).toNat=45∨(t.getD (i - 1) 0).toNat=46)∧i < t.length)) (fun i=>t.length - i) 0 (Le.mk _ _ ?_ ?_) ?_ ?_
 · simp [upd,num,tx]
 · simp
 · simp [a1c,a00]
 · rintro i ⟨hi,hinv,hprev⟩
   unfold ir274_l8
   simp [num,tx]
   refine O5 (fun h1=>?_) (fun h1=>?_)
   · have hstep:=b1r (a1c t i) t i h1
     have hg1:t.getD (i+1 - 1) 0=t[i]:=by rw [Nat.add_sub_cancel];exact a0w _ _ _ h1
     have hl1:a1c t (i+1)=!a01 t[i]:=by
      unfold a1c
      rw [hg1];simp
     have hnext:∀ st':St,st'.env 0=.val (tx t)→st'.env 6=.val (num t.length)→st'.env 7=.val (num ((i:Int)+1))→a00 t=V4 (!a01 t[i]) (t.drop (i+1))→(a01 t[i]=true∨(t[i].toNat=45∨t[i].toNat=46)∧i+1 < t.length) →
      ∃ x',(x'≤t.length∧a00 t=V4 (a1c t x') (t.drop x')∧(0 < x'→a01 (t.getD (x' - 1) 0)=true∨((t.getD (x' - 1) 0).toNat=45∨(t.getD (x' - 1) 0).toNat=46)∧x' < t.length))∧t.length - x' < t.length - i∧Le st' ⟨S7 [(0,.val (tx t)),(6,.val (num t.length)),(7,.val (num x'))],S0 []⟩:=fun st' q1 q2 q3 q4 q5=>by
      refine ⟨i+1,⟨by omega,by rw [hl1];exact q4,fun _=>by rw [hg1];exact q5⟩,by omega,Le.mk _ _ ?_ ?_⟩
      · simp [q1,q2,q3]
      · simp
     simp [tx,num,b7,z1,h1]
     refine f6 rfl rfl (.inl rfl) (b31 t[i]) ?_
     have hplain:a01 t[i]=true→a00 t=V4 (!a01 t[i]) (t.drop (i+1)):=fun hp=>by
      rw [hinv,hstep]
      have:(V7 t[i] || P8 t[i])=true:=hp
      rw [this,hp];rfl
     cases hlow:V7 t[i] with
     | true=>
      have hp:a01 t[i]=true:=by unfold a01;rw [hlow];rfl
      simp
      refine hnext _ ?_ ?_ ?_ (hplain hp) (.inl hp)
      · simp [tx]
      · simp [num]
      · simp [num];exact wrap_i64 (by omega) (by omega)
     | false=>
      simp
      refine f6 rfl rfl (.inl rfl) (a88 t[i]) ?_
      cases hdig:P8 t[i] with
      | true=>
       have hp:a01 t[i]=true:=by unfold a01;rw [hdig];simp
       simp
       refine hnext _ ?_ ?_ ?_ (hplain hp) (.inl hp)
       · simp [tx]
       · simp [num]
       · simp [num];exact wrap_i64 (by omega) (by omega)
      | false=>
       have hp:a01 t[i]=false:=by unfold a01;rw [hlow,hdig];rfl
       have hp':(V7 t[i] || P8 t[i])=false:=hp
       simp
       refine c42 (t:=t) (i:=i) (c:=t[i]) h1 ht ⟨?_,?_,?_,?_,?_⟩ (fun hbd st' q=>?_) (fun hbd st' q=>?_)
       · simp [tx]
       · simp [num]
       · simp [rvb]
       · simp [num]
       · simp [num]
       · have:a00 t=false:=by
          rw [hinv,hstep,hp']
          by_cases hcs:t[i].toNat=45∨t[i].toNat=46
          · have hb26':b3c t i=true:=by
             unfold a2x at hbd
             rcases hcs with h | h<;>simpa [h] using hbd
            have hlast:a1c t i=true∨i=t.length - 1:=by
             unfold b3c c2l c2k c2j at hb26'
             simp only [Bool.or_eq_true,decide_eq_true_eq] at hb26'
             rcases hb26' with h | h | h | h
             · left;unfold a1c;rw [decide_eq_true h];rfl
             · right;exact h
             · left;unfold a1c;rw [b1e (.inl h)];simp
             · left;unfold a1c;rw [b1e (.inr h)];simp
            by_cases hla:a1c t i=true
            · rw [hla];simp
            · have hei:i=t.length - 1:=hlast.resolve_left hla
              have hd:t.drop (i+1)=[]:=List.drop_eq_nil_of_le (by omega)
              rw [hd]
              cases (a1c t i || !decide (t[i].toNat=45∨t[i].toNat=46))<;>rfl
          · rw [decide_eq_false hcs];simp
         rw [this]
         simp [q]
       · have hcs:t[i].toNat=45∨t[i].toNat=46:=by
          unfold a2x at hbd
          by_cases h45:t[i].toNat=45
          · exact .inl h45
          · by_cases h46:t[i].toNat=46
            · exact .inr h46
            · simp [h45,h46] at hbd
         have hb26':b3c t i=false:=by
          unfold a2x at hbd
          rcases hcs with h | h<;>simpa [h] using hbd
         unfold b3c c2l c2k c2j at hb26'
         simp only [Bool.or_eq_false_iff,decide_eq_false_iff_not] at hb26'
         obtain ⟨k0,k1,k2,k3⟩:=hb26'
         have hla:a1c t i=false:=by
          unfold a1c
          rcases hprev (by omega) with h | ⟨h | h,_⟩
          · rw [h,decide_eq_false k0];rfl
          · exact absurd h k2
          · exact absurd h k3
         simp [q.e7,num]
         refine hnext _ ?_ ?_ ?_ ?_ (.inr ⟨hcs,by omega⟩)
         · simp [q.e0]
         · simp [q.e6]
         · simp [num];exact wrap_i64 (by omega) (by omega)
         · rw [hinv,hstep,hp',hla,decide_eq_true hcs,hp];rfl
   · have e:i=t.length:=by omega
     subst e
     have e3:(⟨#[]⟩:ByteArray)=bs []:=rfl
     rw [List.drop_length] at hinv
     have hfin:a00 t=!decide (t=[]):=by
      rw [hinv]
      unfold a1c
      simp only [V4]
      by_cases h0:t=[]
      · subst h0;rfl
      · have hpos:0 < t.length:=List.length_pos_iff.2 h0
        rcases hprev hpos with h | ⟨_,h⟩
        · rw [h,decide_eq_false (by omega),decide_eq_false h0];rfl
        · omega
     rw [hfin]
     simp [tx,e3,R3]
end Go.Proofs
end
section
namespace Go.Proofs
open Go.PW Go.KP
attribute [local simp] RV.cells RV.one PV.cells PV.solid PV.one N3 b8 O9 P0 RV.ofCells elems PV.killL
variable [GH]
theorem c4c (n:Int) (h0:-9223372036854775808≤n) (h1:n≤9223372036854775807):(a4h n).length≤20:=by
 unfold a4h
 split
 · have:=a3d 18 (-n).toNat (by omega)
   simp;omega
 · have:=a3d 18 n.toNat (by omega)
   omega
structure UT (st:St) (u:LUrl) (pre:Tx):Prop where
 e1:st.env 1=.ptr 1 0
 e3:st.env 3=.val (tx pre)
 m1:st.mem 1=.box (d7 u)
abbrev txt (t:Tx):Kx (PExit→St→Prop):=⟨a1l [.t 2] (.val (tx t))⟩
theorem b61 (u:LUrl) (hs:u.Small) (pre:Tx) (hp:pre.length < 5497558138880) (st:St) (h:UT st u pre) :
 EC Tryz.prog ir157_from7 st (K:=txt (pre++(if u.hasQ then 63 :: u.query else [])++(if u.hasF then 35 :: u.frag else []))):=by
 unfold ir157_from7
 obtain ⟨s1,s2,s3,s4,s5,s6,s7⟩:=hs
 have e5:(⟨#[63]⟩:ByteArray)=bs [63]:=rfl
 have e6:(⟨#[35]⟩:ByteArray)=bs [35]:=rfl
 cases hq:u.hasQ with
 | true=>
  cases hf:u.hasF with
  | true=>
   simp [h.e1,h.e3,h.m1,d7,tx,num,b7,e5,e6,P2,hq,hf]
   omega
  | false=>
   simp [h.e1,h.e3,h.m1,d7,tx,num,b7,e5,e6,P2,hq,hf]
   omega
 | false=>
  cases hf:u.hasF with
  | true=>
   simp [h.e1,h.e3,h.m1,d7,tx,num,b7,e5,e6,P2,hq,hf]
   omega
  | false=>
   simp [h.e1,h.e3,h.m1,d7,tx,num,b7,e5,e6,P2,hq,hf]
def b0c (u:LUrl):Tx:=u.path++(if u.hasQ then 63 :: u.query else [])++(if u.hasF then 35 :: u.frag else [])
theorem a9u (u:LUrl) (hs:u.Small) (pre:Tx) (hp:pre.length < 4398046511104) (st:St) (h:UT st u pre) :
 EC Tryz.prog ir157_from6 st (K:=txt (pre++b0c u)):=by
 unfold ir157_from6
 have hs':=hs
 obtain ⟨s1,s2,s3,s4,s5,s6,s7⟩:=hs
 have e:pre++b0c u=(pre++u.path)++(if u.hasQ then 63 :: u.query else [])++(if u.hasF then 35 :: u.frag else []):=by simp [b0c]
 rw [e]
 simp [h.e1,h.e3,h.m1,d7,tx,num,b7,P2]
 refine ⟨by omega,?_⟩
 refine b61 u hs' (pre++u.path) (by simp;omega) _ ⟨?_,?_,?_⟩<;>simp [h.e1,h.m1,d7,tx]
theorem b62 (u:LUrl) (hs:u.Small) (hp0:-9223372036854775808≤u.port) (pre:Tx) (hp:pre.length < 4398046510080) (st:St) (h:UT st u pre) :
 EC Tryz.prog ir157_from5 st (K:=txt (pre++a1s u.port++b0c u)):=by
 unfold ir157_from5
 have e5:(⟨#[58]⟩:ByteArray)=bs [58]:=rfl
 by_cases h0:u.port=0
 · have e:pre++a1s u.port++b0c u=pre++b0c u:=by simp [a1s,h0]
   rw [e]
   simp [h.e1,h.e3,h.m1,d7,tx,num,b7,P2,h0]
   refine a9u u hs pre (by omega) _ ⟨?_,?_,?_⟩<;>simp [h.e1,h.e3,h.m1,d7,tx,num,h0]
 · have e:pre++a1s u.port++b0c u=(pre++58 :: a4h u.port)++b0c u:=by simp [a1s,h0]
   rw [e]
   simp [h.e1,h.e3,h.m1,d7,tx,num,b7,P2,h0]
   refine f6 rfl rfl (.inl rfl) (c2f u.port hp0 hs.2.2.2.2.2.2) ?_
   have hl:=c4c u.port hp0 hs.2.2.2.2.2.2
   simp [tx,num,b7,P2,e5]
   refine ⟨by omega,by omega,?_⟩
   refine a9u u hs (pre++58 :: a4h u.port) (by simp;omega) _ ⟨?_,?_,?_⟩<;>simp [h.e1,h.e3,h.m1,d7,tx,num]
theorem a9v (u:LUrl) (hs:u.Small) (hp0:-9223372036854775808≤u.port) (pre:Tx) (hp:pre.length < 3298534882300) (st:St) (h:UT st u pre) :
 EC Tryz.prog ir157_from4 st (K:=txt (pre++u.host++a1s u.port++b0c u)):=by
 unfold ir157_from4
 have hs':=hs
 obtain ⟨s1,s2,s3,s4,s5,s6,s7⟩:=hs
 simp [h.e1,h.e3,h.m1,d7,tx,num,b7,P2]
 refine ⟨by omega,?_⟩
 refine b62 u hs' hp0 (pre++u.host) (by simp;omega) _ ⟨?_,?_,?_⟩<;>simp [h.e1,h.m1,d7,tx,num]
theorem b63 (u:LUrl) (hs:u.Small) (hp0:-9223372036854775808≤u.port) (st:St) (e1:st.env 1=.ptr 1 0) (m1:st.mem 1=.box (d7 u)) :
 EC Tryz.prog ir157_from2 st (K:=txt (u.scheme++[58,47,47]++(if u.user=[] then [] else u.user++[64])++u.host++a1s u.port++b0c u)):=by
 unfold ir157_from2
 have hs':=hs
 obtain ⟨s1,s2,s3,s4,s5,s6,s7⟩:=hs
 have q1:(⟨#[58,47,47]⟩:ByteArray)=bs [58,47,47]:=rfl
 have q2:(⟨#[]⟩:ByteArray)=bs []:=rfl
 have q3:(⟨#[64]⟩:ByteArray)=bs [64]:=rfl
 by_cases hu:u.user=[]
 · rw [if_pos hu,List.append_nil]
   simp [e1,m1,d7,tx,num,b7,P2,q1,q2,q3,R3,hu]
   refine ⟨by omega,?_⟩
   refine a9v u hs' hp0 (u.scheme++[58,47,47]) (by simp;omega) _ ⟨?_,?_,?_⟩<;>simp [e1,m1,d7,tx,num,hu]
 · rw [if_neg hu]
   simp [e1,m1,d7,tx,num,b7,P2,q1,q2,q3,R3,hu]
   refine ⟨by omega,by omega,by omega,?_⟩
   refine a9v u hs' hp0 (u.scheme++[58,47,47]++(u.user++[64])) (by simp;omega) _ ⟨?_,?_,?_⟩<;>simp [e1,m1,d7,tx,num]
theorem c4v (u:LUrl) (hs:u.Small) (hp0:-9223372036854775808≤u.port):z6 Tryz.prog 157 [.val (W5 u)] (.ret (.val (tx (a1r u))) []) []:=by
 refine K4 mixed ok157 rfl (fun _=>rfl) ?_
 unfold ir157
 rw [d9]
 simp [w8,J8,P1,b9,q8,W5,tx,num,b8]
 refine f6 rfl rfl (.inl rfl) (b68 u) ?_
 have q1:(⟨#[58]⟩:ByteArray)=bs [58]:=rfl
 cases hw:a0b u.scheme with
 | true=>
  simp
  have e:a1r u=u.scheme++[58,47,47]++(if u.user=[] then [] else u.user++[64])++u.host++a1s u.port++b0c u:=by simp [a1r,hw,b0c]
  rw [e]
  refine b63 u hs hp0 _ ?_ ?_<;>simp [d7,tx,num]
 | false=>
  obtain ⟨s1,s2,s3,s4,s5,s6,s7⟩:=hs
  have e:a1r u=u.scheme++[58]++u.path:=by simp [a1r,hw]
  rw [e]
  simp [tx,b7,P2,q1]
  omega
end Go.Proofs
end
section
namespace Go.KP
def a3g (t:Tx):Int×Bool:=Lib.NumEnd.casesOn (motive:=fun _=>Int×Bool) (Lib.atoiAll t) (fun v=>(v,decide (X5 t≤18) && decide (a4h v=t))) (0,false) (Lib.atoiSat t,false)
theorem b8n:∀ (u:Tx) (acc:Nat),u.all P8=true→acc*10 ^ u.length+V3 u < 1000000000000000000→Lib.parseUint10 acc u=.ok (acc*10 ^ u.length+V3 u):=by
 have hlv:∀ (u:Tx) (a:Nat),u.foldl (fun n c=>n*10+(c.toNat - 48)) a=a*10 ^ u.length+V3 u:=by
  intro u
  induction u with
  | nil=>intro a;simp [V3]
  | cons c r ih=>
   intro a
   simp only [List.foldl_cons,V3,List.length_cons]
   rw [ih,ih (0*10+(c.toNat - 48)),Nat.pow_succ]
   have:(a*10+(c.toNat - 48))*10 ^ r.length=a*(10 ^ r.length*10)+(c.toNat - 48)*10 ^ r.length:=by
    rw [Nat.add_mul];congr 1;rw [Nat.mul_assoc,Nat.mul_comm 10]
   rw [this];simp [Nat.add_assoc]
 intro u
 induction u with
 | nil=>intro acc _ _;simp [Lib.parseUint10,V3]
 | cons c r ih=>
  intro acc ha hlt
  simp only [List.all_cons,Bool.and_eq_true] at ha
  have hc:=ha.1
  simp only [P8,decide_eq_true_eq] at hc
  have e:acc*10 ^ (c :: r).length+V3 (c :: r)=(acc*10+(c.toNat - 48))*10 ^ r.length+V3 r:=by
   rw [← hlv (c :: r) acc,List.foldl_cons,hlv r]
  rw [e] at hlt ⊢
  have hp:1≤10 ^ r.length:=Nat.one_le_pow _ _ (by decide)
  have hb:acc*10+(c.toNat - 48) < 1000000000000000000:=by
   have:=Nat.le_mul_of_pos_right (acc*10+(c.toNat - 48)) hp
   omega
  rw [Lib.parseUint10.eq_2,if_pos hc,if_neg (by omega),if_neg (by omega)]
  exact ih _ ha.2 hlt
theorem c01 (t:Tx):(if (a3g t).2 then some (a3g t).1 else none)=U4 t:=by
 cases hl:U4 t with
 | some n=>
  obtain ⟨h1,h2,u,h3,h4,h5,h6⟩:=a4x hl
  have hv:V3 u < 1000000000000000000:=by
   have:=b0j u h4
   have h7:V3 u < 10 ^ 18:=Nat.lt_of_lt_of_le this (Nat.pow_le_pow_right (by omega) h5)
   have h8:(10:Nat) ^ 18=1000000000000000000:=by decide
   omega
  have hpm:Lib.parseMag u=.ok (V3 u):=by
   unfold Lib.parseMag
   rw [if_neg h3,b8n u 0 h4 (by simpa using hv)]
   simp
  have key:Lib.atoiAll t=.ok n:=by
   unfold Lib.atoiAll
   rcases h6 with ⟨rfl,hn⟩ | ⟨rfl,hn⟩
   · have e45:(45:UInt8).toNat=45:=rfl
     simp only [e45,or_true,if_true,hpm,not_true,false_and,if_false,true_and]
     rw [if_neg (by omega),hn]
   · cases hu:t with
     | nil=>exact absurd hu h3
     | cons c r=>
      have hd:P8 c=true:=by rw [hu,List.all_cons,Bool.and_eq_true] at h4;exact h4.1
      simp only [P8,decide_eq_true_eq] at hd
      have e1:¬ c.toNat=43:=by omega
      have e2:¬ c.toNat=45:=by omega
      rw [hu] at hpm hn hv
      simp only [e1,e2,or_self,if_false,not_false_eq_true,true_and,false_and]
      rw [hpm]
      dsimp only
      rw [if_neg (by omega),hn]
  unfold a3g
  rw [key]
  simp only [h1,decide_true,Bool.and_true]
  rw [decide_eq_true h2];rfl
 | none=>
  rcases hv:Lib.atoiAll t with v | _ | _<;>unfold a3g<;>rw [hv]
  · dsimp only
    by_cases h:(decide (X5 t≤18) && decide (a4h v=t))=true
    · simp only [Bool.and_eq_true,decide_eq_true_eq] at h
      have:=b41 v (by rw [h.2];exact h.1)
      rw [h.2,hl] at this
      cases this
    · rw [if_neg h]
  · rfl
  · rfl
theorem b3h {t:Tx} {v:Int} (h:Lib.atoiAll t=.ok v):-9223372036854775808≤v∧v≤9223372036854775807:=by
 unfold Lib.atoiAll at h
 split at h
 · cases h
 · dsimp only at h
   split at h
   · cases h
   · cases h
   · split at h
     · cases h
     · split at h
       · cases h
       · rename_i u _ h1 h2
         injection h with h
         split at h
         · rename_i h3
           have:¬ 9223372036854775808 < u:=fun h4=>h2 ⟨h3,h4⟩
           omega
         · rename_i h3
           have:¬ 9223372036854775808≤u:=fun h4=>h1 ⟨h3,h4⟩
           omega
theorem b5f {t:Tx} (h:(a3g t).2=true):U4 t=some (a3g t).1:=by
 have:=c01 t
 rw [h] at this
 exact this.symm
theorem a86 {t:Tx} (h:(a3g t).2=false):U4 t=none:=by
 have:=c01 t
 rw [h] at this
 exact this.symm
end Go.KP
namespace Go.PW
open Go.RowKit
variable [GF]
theorem c2t {P:Program} {f:Nat} {rs:List RV} {vals:List Value} {p:PV} (ha:svs rs=some vals)
 (h:∀ L w,Globs L w→b2x L w→Calls P f vals.toArray w fun e w'=>(∃ v,e=.returned v∧∀ γ L,RepP γ L w' p v)∧Below w.heap.size w w'):z6 P f (rs.map .val) (.ret p []) []:=by
 intro L w vs ms hL hgl hgb hargs hnd
 obtain ⟨rfl,rfl⟩:=b5o ha hargs
 refine (h L w hgl hgb).mono fun e w' ⟨⟨v,he,hp⟩,hb⟩=>?_
 exact ⟨Outside.of_below hb,v,fun _=>undef,he,hp _ _,a9r,rfl,fun i b cells h1 h2=>by simp at h1⟩
end Go.PW
namespace Go.Proofs
open Go.PW Go.KP Go.RowKit
variable [GH]
def a0x (t:Tx):PV:=Lib.NumEnd.casesOn (motive:=fun _=>PV) (Lib.atoiAll t) (fun v=>.tup [.val (num v),.val .nilif]) (.tup [.val (num 0),.val (.ifc 259 .opq)]) (.tup [.val (num (Lib.atoiSat t)),.val (.ifc 259 .opq)])
theorem b70 (w:World) (t:ByteArray):Below w.heap.size w (Lib.bytesWorld w 5 t):=Lib.bytesWorld_below _ _ _
theorem b4i {γ:Nat→Value} {L:Nat→Prop} {w:World} {p q:PV} {v u:Value} (h1:RepP γ L w p v) (h2:RepP γ L w q u):RepP γ L w (.tup [p,q]) (.tuple #[v,u]):=
 .tup _ _ rfl fun i hi=>by
  match i,hi with
  | 0,_=>exact h1
  | 1,_=>exact h2
theorem c_Atoi (t:Tx) (ht:t.length < 4294967281):z6 Tryz.prog 277 [.val (tx t)] (.ret (a0x t) []) []:=by
 refine c2t (rs:=[tx t]) (vals:=[.string (bs t)]) rfl fun L w hgl hgb=>?_
 have hsz:(bs t).size=t.length:=b7 t
 rcases h:Lib.atoiAll t with v | _ | _
 · refine (Tryz.strconv_Atoi_ok (bs t) (by rw [hsz];omega) v (by rw [Z5];exact h) w).mono fun e w' ⟨he,hw⟩=>?_
   refine ⟨⟨_,he,fun γ L=>?_⟩,?_⟩
   · unfold a0x
     rw [h]
     exact b4i (.val _ _ (.int _ _)) (.val _ _ .nilif)
   · rcases hw with hw | ⟨s,hw⟩
     · exact a3n hw
     · rw [hw];exact b70 _ _
 · refine (Calls.mono (Any.strconv_Atoi_syntax Tryz.laysC172 (bs t) (by rw [hsz];omega) (by rw [Z5];exact h) _ w (hgl _ GH.hs).2 (.inr ⟨_,_,rfl⟩)) fun e w' ⟨N,he,_,_,hw⟩=>?_)
   refine ⟨⟨_,he,fun γ L=>?_⟩,hw⟩
   unfold a0x
   rw [h]
   exact b4i (.val _ _ (.int _ _)) (.val _ _ (.ifc _ _ _ (.opq _ rfl)))
 · refine (Tryz.strconv_Atoi_range (bs t) (by rw [hsz];omega) (by rw [Z5];exact h) _ w (hgl _ GH.hr).2 (.inr ⟨_,_,rfl⟩)).mono fun e w' ⟨N,he,_,_,hw⟩=>?_
   refine ⟨⟨_,he,fun γ L=>?_⟩,hw⟩
   unfold a0x
   rw [h]
   rw [Z5]
   exact b4i (.val _ _ (.int _ _)) (.val _ _ (.ifc _ _ _ (.opq _ rfl)))
def a8a (t:Tx):PV:=.tup [.val (num (a3g t).1),.val (.bool (a3g t).2)]
theorem a70 (t:Tx) (ht:t.length < 4294967281) (st:St) (h0:st.env 0=.val (tx t)) (h6:st.env 6=.val (num (X5 t)))
 (h45:(∃ v,Lib.atoiAll t=.ok v∧st.env 4=.val (num v)∧st.env 5=.val .nilif)∨(∃ n,(a3g t)=(n,false)∧st.env 4=.val (num n)∧st.env 5=.val (.ifc 259 .opq))) :
 EC Tryz.prog ir249_from4 st (K:=⟨a1l [.t 2,.t 3] (a8a t)⟩):=by
 unfold ir249_from4 a8a
 rcases h45 with ⟨v,hv,h4,h5⟩ | ⟨n,hn,h4,h5⟩
 · have hr:=b3h hv
   have e:a3g t=(v,decide (X5 t≤18) && decide (a4h v=t)):=by unfold a3g;rw [hv]
   rw [e]
   by_cases hd:X5 t≤18
   · have hd':(X5 t:Int)≤18:=by omega
     simp [h0,h4,h5,h6,tx,num,hd']
     refine f6 rfl rfl (.inl rfl) (c5k v hr.1 hr.2) ?_
     simp [h0,h4,h5,h6,tx,num,R3,hd]
   · have hd':¬ (X5 t:Int)≤18:=by omega
     simp [h0,h4,h5,h6,tx,num,hd',hd]
 · rw [hn]
   simp [h0,h4,h5,h6,tx,num]
theorem b7c (t:Tx) (ht:t.length < 4294967281):z6 Tryz.prog 249 [.val (tx t)] (.ret (a8a t) []) []:=by
 refine K4 mixed ok249 rfl (fun _=>rfl) ?_
 unfold ir249
 rw [d9]
 have e3:(⟨#[]⟩:ByteArray)=bs []:=rfl
 have hA:=c_Atoi t ht
 simp [w8,J8,P1,b9,q8,tx]
 have hmid:∀ (a b:RV),a0x t=.tup [.val a,.val b]→((∃ v,Lib.atoiAll t=.ok v∧a=num v∧b=.nilif)∨(∃ n,(a3g t)=(n,false)∧a=num n∧b=.ifc 259 .opq)):=by
  intro a b h
  rcases hv:Lib.atoiAll t with v | _ | _
  · have e:a0x t=.tup [.val (num v),.val .nilif]:=by unfold a0x;rw [hv]
    rw [e] at h
    simp only [PV.tup.injEq,List.cons.injEq,PV.val.injEq] at h
    exact .inl ⟨v,rfl,h.1.symm,h.2.1.symm⟩
  · have e:a0x t=.tup [.val (num 0),.val (.ifc 259 .opq)]:=by unfold a0x;rw [hv]
    have e2:a3g t=(0,false):=by unfold a3g;rw [hv]
    rw [e] at h
    simp only [PV.tup.injEq,List.cons.injEq,PV.val.injEq] at h
    exact .inr ⟨0,e2,h.1.symm,h.2.1.symm⟩
  · have e:a0x t=.tup [.val (num (Lib.atoiSat t)),.val (.ifc 259 .opq)]:=by unfold a0x;rw [hv]
    have e2:a3g t=(Lib.atoiSat t,false):=by unfold a3g;rw [hv]
    rw [e] at h
    simp only [PV.tup.injEq,List.cons.injEq,PV.val.injEq] at h
    exact .inr ⟨Lib.atoiSat t,e2,h.1.symm,h.2.1.symm⟩
 obtain ⟨a,b,hab⟩:∃ a b,a0x t=.tup [.val a,.val b]:=by
  unfold a0x
  rcases Lib.atoiAll t with v | _ | _<;>exact ⟨_,_,rfl⟩
 have hm:=hmid a b hab
 rw [hab] at hA
 refine P7 rfl rfl (.inl rfl) hA ?_
 cases t with
 | nil=>
  simp [tx,b7,e3,R3]
  refine a70 [] ht _ ?_ ?_ ?_
  · simp [tx]
  · simp [num,X5]
  · rcases hm with ⟨v,h1,rfl,rfl⟩ | ⟨n,h1,rfl,rfl⟩
    · exact .inl ⟨v,h1,by simp,by simp⟩
    · exact .inr ⟨n,h1,by simp,by simp⟩
 | cons c r=>
  have hr:r.length < 4294967280:=by simp at ht;omega
  have e0:(0:Int) < ((r.length:Int)+1):=by omega
  have fin:∀ st':St,st'.env 0=.val (tx (c :: r))→st'.env 6=.val (num (X5 (c :: r)))→st'.env 4=.val a→st'.env 5=.val b→EC Tryz.prog ir249_from4 st' (K:=⟨a1l [.t 2,.t 3] (a8a (c :: r))⟩):=fun st' q0 q6 q4 q5=>by
   refine a70 (c :: r) ht st' q0 q6 ?_
   rcases hm with ⟨v,h1,rfl,rfl⟩ | ⟨n,h1,rfl,rfl⟩
   · exact .inl ⟨v,h1,q4,q5⟩
   · exact .inr ⟨n,h1,q4,q5⟩
  by_cases hc:c=45
  · have e1:((c.toNat:Int)=45):=by rw [hc];rfl
    have hw:IntKind.i64.wrap ((r.length:Int)+1 - 1)=(r.length:Int):=by rw [wrap_i64 (by omega) (by omega)];omega
    simp [tx,b7,e3,R3,z1,e0,e1,hw]
    refine fin _ ?_ ?_ ?_ ?_
    · simp [tx]
    · simp [num,X5,hc];exact wrap_i64 (by omega) (by omega)
    · simp
    · simp
  · have e1:¬ ((c.toNat:Int)=45):=fun h=>hc (UInt8.toNat_inj.1 (by simp;omega))
    simp [tx,b7,e3,R3,z1,e0,e1]
    refine fin _ ?_ ?_ ?_ ?_
    · simp [tx]
    · simp [num,X5,hc]
    · simp
    · simp
end Go.Proofs
end
section
namespace Go.Proofs
open Go.PW Go.KP Go.RowKit
def a0y (t:Tx) (k j:Nat):UInt8:=if j < k then b6q (t.getD j 0) else t.getD j 0
def a7n (t:Tx) (B k:Nat) (wr:World):Prop:=
 (∀ j,j < t.length→wr.cell? ⟨B,j,none⟩=some (.int .u8 ((a0y t k j).toNat:Int)))∧(∀ j,j < t.length→wr.frozen? ⟨B,j,none⟩=false)
theorem b4y (t:Tx) (w:World) (cap:Nat):a7n t w.heap.size 0 (w.alloc (.cells (bytesRow (bs t) cap) 5 ((bytesRow (bs t) cap).size,(bytesRow (bs t) cap).size+1))):=by
 have hsz:(bs t).data.size=t.length:=by simp [bs]
 refine ⟨fun j hj=>?_,fun j hj=>?_⟩
 · rw [World.cell?_alloc_mark,bytesRow_at (bs t) cap j (by omega)]
   simp [a0y,bs,hj]
 · rw [World.frozen?_alloc_mark]
   have:t.length≤(bytesRow (bs t) cap).size:=by simp [bytesRow,bs]
   have h2:¬ (bytesRow (bs t) cap).size≤j:=by omega
   simp [h2]
theorem b8y {t:Tx} {B k:Nat} {wr:World} (hk:k < t.length) (h:a7n t B k wr) (h1:(65:Int)≤((a0y t k k).toNat:Int)) (h2:((a0y t k k).toNat:Int)≤90) :
 a7n t B (k+1) (wr.setCell ⟨B,k,none⟩ (.int .u8 (((a0y t k k).toNat:Int)+32))):=by
 have e0:a0y t k k=t.getD k 0:=by simp [a0y]
 rw [e0] at h1 h2 ⊢
 refine ⟨fun j hj=>?_,fun j hj=>by rw [World.frozen?_setCell];exact h.2 j hj⟩
 by_cases e:j=k
 · subst e
   rw [World.cell?_setCell_same _ _ _ (h.1 j hj)]
   have:a0y t (j+1) j=t.getD j 0+32:=by
    simp only [a0y,Nat.lt_succ_self,if_true,b6q]
    rw [if_pos (by omega)]
   rw [this]
   congr 2
   rw [UInt8.toNat_add]
   have e32:(32:UInt8).toNat=32:=rfl
   rw [e32]
   omega
 · rw [World.cell?_setCell_other _ _ _ _ (by simp<;>omega),h.1 j hj]
   have:a0y t (k+1) j=a0y t k j:=by
    unfold a0y
    by_cases hjk:j < k
    · rw [if_pos hjk,if_pos (by omega)]
    · rw [if_neg hjk,if_neg (by omega)]
   rw [this]
theorem a9s {t:Tx} {B k:Nat} {wr:World} (h:a7n t B k wr) (h1:¬ ((65:Int)≤((a0y t k k).toNat:Int)∧((a0y t k k).toNat:Int)≤90)):a7n t B (k+1) wr:=by
 have e0:a0y t k k=t.getD k 0:=by simp [a0y]
 rw [e0] at h1
 refine ⟨fun j hj=>?_,h.2⟩
 rw [h.1 j hj]
 have:a0y t (k+1) j=a0y t k j:=by
  unfold a0y
  by_cases hjk:j < k
  · rw [if_pos hjk,if_pos (by omega)]
  · by_cases e:j=k
    · subst e
      rw [if_pos (by omega),if_neg (by omega)]
      unfold b6q
      rw [if_neg (by omega)]
    · rw [if_neg hjk,if_neg (by omega)]
 rw [this]
theorem c1w {t:Tx} {j:Nat} (hj:j < (R9 t).length):a0y t t.length j=(R9 t)[j]:=by
 have hj':j < t.length:=by simpa [R9] using hj
 unfold a0y
 rw [if_pos hj',a0w _ _ _ hj']
 simp [R9]
theorem b6p {t:Tx} {B:Nat} {wr:World} (hR:a7n t B t.length wr) (cap:Nat):(convert 148 9 (.slice (some ⟨B,0,none⟩) t.length cap)).run Tryz.prog wr=.ok (.string (bs (R9 t))) wr:=by
 have hll:(R9 t).length=t.length:=by simp [R9]
 have hback:=run_convert_bytes_back (P:=Tryz.prog) wr 148 9 5 ⟨B,0,none⟩ cap (R9 t) Tryz.underlying148 Tryz.underlying5 Tryz.underlying9 (fun j hj=>by
  have h1:=hR.1 j (by omega)
  rw [c1w hj] at h1
  have e:(Addr.add ⟨B,0,none⟩ j)=⟨B,j,none⟩:=by simp [Addr.add];omega
  rw [e]
  exact h1)
 rw [hll] at hback
 exact hback
set_option maxRecDepth 1000000 in
theorem b8x (t:Tx) (w:World) (hl:t.length < 4294967281) :
 Calls Tryz.prog 88 #[.string (bs t)] w fun e w'=>e=.returned (.string (bs (R9 t)))∧Below w.heap.size w w':=by
 have hsz:(bs t).size=t.length:=b7 t
 have hconv:=run_bytes_of_string (P:=Tryz.prog) w 9 148 5 (bs t) Tryz.underlying9 Tryz.underlying148 Tryz.underlying5
 have hll:(R9 t).length=t.length:=by simp [R9]
 go_enter Tryz.func88,Tryz.ntmps88
 go_wp2
 go_loopw [10] (fun i wr=>∃ k:Nat,k≤t.length∧i=.int .i64 k∧a7n t w.heap.size k wr∧Below w.heap.size w wr)
  (fun i _=>t.length - (intOf i).toNat)
 case atStart=>
  refine ⟨0,Nat.zero_le _,rfl,?_,?_⟩
  · have:=b4y t w (grownCap w t.length 0 5)
    exact ⟨this.1,this.2⟩
  · exact ((Below.refl _ w).alloc (Nat.le_refl _) _).drew
 case round=>
  obtain ⟨k,hk,rfl,hR,hnx⟩:=hrel
  have hck:k < t.length→wr.cell? ⟨w.heap.size,k,none⟩=some (.int .u8 ((a0y t k k).toNat:Int)):=fun h=>hR.1 k h
  have hfk:k < t.length→wr.frozen? ⟨w.heap.size,k,none⟩=false:=fun h=>hR.2 k h
  go_wp2
  · refine ⟨⟨k+1,by omega,by first | rfl | simp,b8y (by assumption) hR (by assumption) (by assumption),hnx.setCell (Nat.le_refl _) _⟩,?_⟩
    simp [intOf];omega
  · refine ⟨⟨k+1,by omega,by first | rfl | simp,a9s hR (by omega),hnx⟩,?_⟩
    simp [intOf];omega
  · refine ⟨⟨k+1,by omega,by first | rfl | simp,a9s hR (by omega),hnx⟩,?_⟩
    simp [intOf];omega
  · have hkn:k=t.length:=by omega
    subst hkn
    have hback':=b6p (wr:=wr) hR (grownCap w t.length 0 5)
    rw [hback']
    go_wp2
    go_ret
    exact ⟨rfl,hnx⟩
section
variable [GF]
theorem c03 (t:Tx) (hl:t.length < 4294967281):z6 Tryz.prog 88 [.val (tx t)] (.ret (.val (tx (R9 t))) []) []:=
 a18 (rs:=[tx t]) (vals:=[.string (bs t)]) (v:=.string (bs (R9 t))) rfl rfl fun L w hgl hgb=>b8x t w hl
end
end Go.Proofs
end
section
namespace Go.Proofs
open Go.PW Go.KP
variable [GH]
theorem b8q {K:Kx (PExit→St→Prop)} (t:Tx) (i n:Nat) (c:UInt8) (b:Bool) (st:St) (e0:st.env 0=.val (tx t)) (e3:st.env 3=.val (num i)) (e4:st.env 4=.val (rvb c)) (e5:st.env 5=.val (.bool b)) (e11:st.env 11=.val (num n)) (e12:st.env 12=.val (num i))
 (hgood:(b || (!decide (i=0) && P8 c))=true→∀ st':St,st'.env 0=.val (tx t)→st'.env 11=.val (num n)→st'.env 12=.val (num i)→K.k .normal st')
 (a2x:(b || (!decide (i=0) && P8 c))=false→∀ st':St,st'.env 2=.val (.bool false)→K.k .ret st') :
 EC Tryz.prog ir105_s36 st (K:=K):=by
 unfold ir105_s36
 cases b with
 | true=>
  simp [e5]
  exact hgood (by simp) _ (by simp [e0]) (by simp [e11]) (by simp [e12])
 | false=>
  by_cases h0:i=0
  · subst h0
    simp [e5,e3,e4,num]
    exact a2x (by simp) _ (by simp)
  · have f1:((c.toNat:Int) < 48)↔c.toNat < 48:=by omega
    have f2:((57:Int) < c.toNat)↔57 < c.toNat:=by omega
    by_cases h1:c.toNat < 48
    · simp [e5,e3,e4,num,rvb,h0,f1,h1]
      exact a2x (by simp [P8];omega) _ (by simp)
    · by_cases h2:57 < c.toNat
      · simp [e5,e3,e4,num,rvb,h0,f1,h1,f2,h2]
        exact a2x (by simp [P8];omega) _ (by simp)
      · simp [e5,e3,e4,num,rvb,h0,f1,h1,f2,h2]
        exact hgood (by simp [P8,h0];omega) _ (by simp [e0]) (by simp [e11,num]) (by simp [e12,num])
theorem c41 (t:Tx) (ht:t.length < 1099511627776):z6 Tryz.prog 105 [.val (tx t)] (.ret (.val (.bool (Z6 t))) []) []:=by
 refine K4 mixed ok105 rfl (fun _=>rfl) ?_
 unfold ir105
 rw [d9]
 simp [w8,J8,P1,b9,q8,tx,b7]
 refine f6 rfl rfl (.inl rfl) (a0n t.length 1 12) ?_
 by_cases hlen:1≤t.length∧t.length≤12
 rotate_left
 · rw [show decide ((1:Int)≤t.length∧(t.length:Int)≤12)=false from decide_eq_false (by omega)]
   have:Z6 t=false:=by unfold Z6;rw [decide_eq_false hlen];rfl
   simp [this]
 rw [show decide ((1:Int)≤t.length∧(t.length:Int)≤12)=true from decide_eq_true (by omega)]
 have hw:Z6 t=a09 a0l a10 t:=by unfold Z6;rw [decide_eq_true hlen];rfl
 simp [b7]
 refine S1 (X:=Nat) (fun i=>⟨S7 [(0,.val (tx t)),(11,.val (num t.length)),(12,.val (num i))],S0 []⟩) (fun i=>i≤t.length∧a09 a0l a10 (t.take i)=true) (fun i=>t.length - i) 0 (Le.mk _ _ ?_ ?_) ?_ ?_
 · simp [upd,tx,num]
 · simp
 · simp [a09]
 · rintro i ⟨hi,hall⟩
   simp [num]
   refine O5 (fun h3=>?_) (fun h3=>?_)
   · have hstep:=a4y (p:=a0l) (q:=a10) (fun _ h=>a3v h) t i h3
     rw [hall,Bool.true_and] at hstep
     have a2x:=a39 (p:=a0l) (q:=a10) t i h3
     have e1:((97:Int)≤t[i].toNat)↔97≤t[i].toNat:=by omega
     have e2:((t[i].toNat:Int)≤122)↔t[i].toNat≤122:=by omega
     have e3:((65:Int)≤t[i].toNat)↔65≤t[i].toNat:=by omega
     have e4:((t[i].toNat:Int)≤90)↔t[i].toNat≤90:=by omega
     have e5:((t[i].toNat:Int)=95)↔t[i].toNat=95:=by omega
     have key:∀ (b:Bool) (st':St),b=a0l t[i]→st'.env 0=.val (tx t)→st'.env 3=.val (num i)→st'.env 4=.val (rvb t[i])→st'.env 5=.val (.bool b)→st'.env 11=.val (num t.length)→st'.env 12=.val (num i)→True:=fun _ _ _ _ _ _ _ _ _=>trivial
     have hg:(a0l t[i] || (!decide (i=0) && P8 t[i]))=true→(if i=0 then a0l t[i] else a10 t[i])=true:=fun h=>by
      by_cases h0:i=0
      · subst h0;simpa using h
      · simpa [h0,a10] using h
     have hb:(a0l t[i] || (!decide (i=0) && P8 t[i]))=false→(if i=0 then a0l t[i] else a10 t[i])=false:=fun h=>by
      by_cases h0:i=0
      · subst h0;simpa using h
      · simpa [h0,a10] using h
     by_cases h1:97≤t[i].toNat<;>by_cases h2:t[i].toNat≤122<;>by_cases h4:65≤t[i].toNat<;>by_cases h5:t[i].toNat≤90<;>by_cases h6:t[i].toNat=95<;>first
      | (exfalso;omega)
      | (simp [num,tx,b7,z1,h3,e1,e2,e3,e4,e5,h1,h2,h4,h5,h6]
         refine b8q t i t.length t[i] (a0l t[i]) _ (by simp [tx]) (by simp [num]) (by simp [rvb,h6]) (by simp [a0l,V7,isUp,e1,e2,e3,e4,e5,h1,h2,h4,h5,h6]) (by simp [num]) (by simp [num]) (fun hh st' q0 q11 q12=>?_) (fun hh st' q2=>?_)
         · simp [q12,num]
           refine LoopNext.mk (i+1) ⟨by omega,by rw [hstep];exact hg hh⟩ (by omega) (Le.mk _ _ ?_ ?_)
           · simp [q0,q11,num];exact wrap_i64 (by omega) (by omega)
           · simp
         · have:Z6 t=false:=by rw [hw];exact a2x (hb hh)
           simp [q2,this])
   · have e:i=t.length:=by omega
     subst e
     rw [List.take_length] at hall
     simp [hw,hall]
end Go.Proofs
end
section
namespace Go.Proofs
open Go.PW Go.KP
attribute [local simp] RV.cells RV.one PV.cells PV.solid PV.one N3 b8 O9 P0 RV.ofCells elems PV.killL
variable [GF]
theorem a9y (l:List Tx) (v:Tx) (hl:l.length < 1099511627776):z6 Tryz.prog 119 [.val (.list 1 (l.map tx)),.val (tx v)] (.ret (.val (num (a2i l fun x=>decide (x=v)))) []) []:=by
 refine K4 mixed ok119 rfl (fun _=>rfl) ?_
 unfold ir119
 rw [d9]
 simp [w8,J8,P1,b9,q8,num]
 refine S1 (X:=Nat) (fun i=>⟨S7 [(0,.val (.list 1 (l.map tx))),(1,.val (tx v)),(7,.val (num l.length)),(8,.val (num i))],S0 []⟩) (fun i=>i≤l.length∧∀ k (hk:k < i) (hk':k < l.length),l[k]≠v) (fun i=>l.length - i) 0 (Le.mk _ _ ?_ ?_) ?_ ?_
 · simp [upd,num]
 · simp
 · simp
 · rintro i ⟨hi,hne⟩
   simp [num]
   refine O5 (fun h1=>?_) (fun h1=>?_)
   · have e1:(l.map tx)[i]?.getD .nilptr=tx l[i]:=by simp [List.getElem?_eq_getElem h1]
     by_cases hv:v=l[i]
     · have hh:a2i l (fun x=>decide (x=v))=i:=a71 h1 (by simp [← hv]) (fun k hk=>by simp [hne k hk (by omega)])
       simp [num,h1,e1,tx,R3,(eq_true hv:(v=l[i])=True)]
       rw [hh]
     · simp [num,h1,e1,tx,R3,hv]
       refine LoopNext.mk (i+1) ⟨by omega,fun k hk hk'=>?_⟩ (by omega) (Le.mk _ _ ?_ ?_)
       · by_cases e:k=i
         · subst e;exact fun h=>hv h.symm
         · exact hne k (by omega) hk'
       · simp [num,tx];exact wrap_i64 (by omega) (by omega)
       · simp
   · have e:i=l.length:=by omega
     subst e
     have hh:a2i l (fun x=>decide (x=v))=-1:=a6d (fun k hk=>by simp [hne k hk hk])
     simp [num,hh]
theorem b16 (l:List Tx) (v:Tx) (hl:l.length < 1099511627776):z6 Tryz.prog 140 [.val (.list 1 (l.map tx)),.val (tx v)] (.ret (.val (.bool (decide (v∈l)))) []) []:=by
 refine K4 mixed ok140 rfl (fun _=>rfl) ?_
 unfold ir140
 rw [d9]
 simp [w8,J8,P1,b9,q8,num]
 refine f6 rfl rfl (.inl rfl) (a9y l v hl) ?_
 have hg:=b42 l (fun x=>decide (x=v))
 rw [Bool.eq_iff_iff] at hg
 simp only [decide_eq_true_eq,List.any_eq_true,exists_eq_right] at hg
 simp [num,hg]
end Go.Proofs
end
