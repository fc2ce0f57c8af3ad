/- Ea: merged out of KLb, KIa, KIb, KIc, KId, KIe, KIt, KIm. -/
import Derived.Test.YtfoapolbgpjfaaaGreatDoorAc
import Derived.Test.YtfoapolbgpjfaaaGreatDoorShelf
import Derived.Test.YtfoapolbgpjfaaaGreatDoorCa
import Derived.Test.YtfoapolbgpjfaaaGreatDoorBa
import Derived.Test.YtfoapolbgpjfaaaGreatDoorProg
import Derived.WalkKit
import Derived.Laws.IdiomStrings
set_option linter.unusedSectionVars false
set_option linter.unusedSimpArgs false
set_option linter.unusedVariables false
set_option maxRecDepth 100000
section
namespace Go.KP
theorem a3f (s:Tx) (c:UInt8):Lib.indexByte s c=if c∈s then (k8 s c:Int) else -1:=by
 induction s with
 | nil=>simp [Lib.indexByte]
 | cons b l ih=>
  unfold Lib.indexByte
  by_cases h:b=c
  · subst h
    simp [k8,List.findIdx_cons]
  · have h':(b == c)=false:=by simpa using h
    have h2:k8 (b :: l) c=k8 l c+1:=by simp [k8,List.findIdx_cons,h']
    rw [h',ih,h2]
    by_cases hm:c∈l
    · have hm':c∈b :: l:=List.mem_cons_of_mem _ hm
      rw [if_pos hm,if_pos hm']
      have:(((k8 l c:Nat):Int) == -1)=false:=by rw [beq_eq_false_iff_ne];omega
      rw [this];simp
    · have hm':¬ c∈b :: l:=by simp [hm];exact fun e=>h e.symm
      rw [if_neg hm,if_neg hm']
      simp
theorem b88 (s:Tx) (c:UInt8):Lib.cut s [c]=(i6 s c,k7 s c,decide (c∈s)):=by
 unfold Lib.cut
 rw [Lib.index_one,a3f]
 by_cases h:c∈s
 · rw [if_pos h,if_pos (by omega)]
   simp [i6,k7,h]
 · rw [if_neg h,if_neg (by omega),a2m h,a4n h]
   simp [h]
theorem a83 (s wo:Tx):Lib.containsAny s wo=y5 s wo:=by
 unfold Lib.containsAny
 induction s with
 | nil=>simp [Lib.indexAny,y5]
 | cons b l ih=>
  have e:y5 (b :: l) wo=(decide (b∈wo) || y5 l wo):=rfl
  rw [e,← ih]
  rw [show Lib.indexAny (b :: l) wo=if wo.contains b then 0 else if Lib.indexAny l wo == -1 then -1 else Lib.indexAny l wo+1 from rfl]
  have hc:wo.contains b=decide (b∈wo):=by rw [Bool.eq_iff_iff];simp
  have hge:=Lib.indexAny_ge wo l
  rw [hc]
  by_cases h:b∈wo
  · simp [h]
  · simp only [h,decide_false,Bool.false_or,if_false,Bool.false_eq_true]
    by_cases h2:Lib.indexAny l wo=-1
    · simp [h2]
    · have h2':(Lib.indexAny l wo == -1)=false:=by simpa using h2
      rw [h2']
      simp only [Bool.false_eq_true,if_false]
      rw [decide_eq_true (by omega),decide_eq_true (by omega)]
theorem a3l (n:Nat):Lib.decDigits n=Y2 n:=by
 induction n using Nat.strongRecOn with
 | ind n ih=>
  rw [Lib.decDigits]
  by_cases h:n < 10
  · rw [dif_pos h,W2 h]
  · rw [dif_neg h,a02 h,ih _ (by omega)]
theorem b62 (n:Int):Lib.itoa n=a17 n:=by
 unfold Lib.itoa a17
 split
 · rw [a3l];congr 2;omega
 · rw [a3l]
end Go.KP
namespace Go.Proofs
open Go.PW Go.KP Go.RowKit
class GH extends GF where
 m:Int
 hm:(0,0,Value.int .i64 m)∈gs
 T10:TypeId
 z10:Nat×Nat
 h10:(3,Obj.cells (Lib.pow10Tab.map fun z=>Value.int .u64 z).toArray T10 z10)∈bs
 ts:TypeId
 ps:Value
 hs:(4,0,Value.iface ts ps)∈gs
 tr:TypeId
 pr:Value
 hr:(5,0,Value.iface tr pr)∈gs
variable [GH]
theorem U4 (t:Tx):(bs t).data.toList=t:=by simp [bs]
theorem a63 {B:Nat} (w:World) (n:Nat):Below B w (w.drewN n):=⟨rfl,rfl,rfl,Nat.le_refl _,fun _ _=>rfl⟩
theorem b5d {B:Nat} (w:World) (os:Array Obj) (h:B≤w.heap.size):Below B w (Go.Sort.grow w os):=
 ⟨rfl,rfl,rfl,by simp [Go.Sort.grow],fun k hk=>by simp [Go.Sort.grow,Array.getElem?_append,Nat.lt_of_lt_of_le hk h]⟩
theorem a9d (t:Tx) (c:UInt8) (ht:t.length < 4294967281):f9 Tryz.prog 153 [.val (tx t),.val (tx [c])] (.ret (.tup [.val (tx (i6 t c)),.val (tx (k7 t c)),.val (.bool (decide (c∈t)))]) []) []:=by
 refine a89 (rs:=[tx t,tx [c]]) (qs:=[tx (i6 t c),tx (k7 t c),.bool (decide (c∈t))]) (vals:=[.string (bs t),.string (bs [c])]) (us:=[.string (bs (i6 t c)),.string (bs (k7 t c)),.bool (decide (c∈t))]) rfl rfl fun L w hgl hgb=>?_
 refine (Tryz.strings_Cut (bs t) (bs [c]) GH.m w (by rw [b7];exact ht) (hgl _ GH.hm).2).mono fun e w' ⟨he,n,hw⟩=>?_
 rw [U4,U4,b88] at he
 exact ⟨he,hw ▸ a63 w n⟩
theorem b3l (t p:Tx):f9 Tryz.prog 248 [.val (tx t),.val (tx p)] (.ret (.tup [.val (tx (if p.isPrefixOf t then t.drop p.length else t)),.val (.bool (p.isPrefixOf t))]) []) []:=by
 refine a89 (rs:=[tx t,tx p]) (qs:=[tx (if p.isPrefixOf t then t.drop p.length else t),.bool (p.isPrefixOf t)]) (vals:=[.string (bs t),.string (bs p)]) (us:=[.string (bs (if p.isPrefixOf t then t.drop p.length else t)),.bool (p.isPrefixOf t)]) rfl rfl fun L w hgl hgb=>?_
 refine (Tryz.strings_CutPrefix (bs t) (bs p) w).mono fun e w' ⟨he,hw⟩=>?_
 rw [U4,U4] at he
 exact ⟨he,a1j hw⟩
theorem b3j (t:Tx) (c:UInt8):f9 Tryz.prog 231 [.val (tx t),.val (rvb c)] (.ret (.val (num (if c∈t then (k8 t c:Int) else -1))) []) []:=by
 refine a0e (rs:=[tx t,rvb c]) (vals:=[.string (bs t),.int .u8 c.toNat]) (v:=.int .i64 (if c∈t then (k8 t c:Int) else -1)) rfl rfl fun L w hgl hgb=>?_
 refine (Tryz.strings_IndexByte (bs t) c.toNat w).mono fun e w' ⟨he,hw⟩=>?_
 rw [U4,Lib.byte_back,a3f] at he
 exact ⟨he,a1j hw⟩
theorem b3k (t p:Tx):f9 Tryz.prog 228 [.val (tx t),.val (tx p)] (.ret (.val (.bool (p.isPrefixOf t))) []) []:=by
 refine a0e (rs:=[tx t,tx p]) (vals:=[.string (bs t),.string (bs p)]) (v:=.bool (p.isPrefixOf t)) rfl rfl fun L w hgl hgb=>?_
 refine (Tryz.strings_HasPrefix (bs t) (bs p) w).mono fun e w' ⟨he,hw⟩=>?_
 rw [U4,U4] at he
 exact ⟨he,a1j hw⟩
theorem b5a (t:Tx) (c:UInt8):f9 Tryz.prog 275 [.val (tx t),.val (tx [c])] (.ret (.val (.bool (decide (c∈t)))) []) []:=by
 refine a0e (rs:=[tx t,tx [c]]) (vals:=[.string (bs t),.string (bs [c])]) (v:=.bool (decide (c∈t))) rfl rfl fun L w hgl hgb=>?_
 refine (Tryz.strings_Contains_one (bs t) c w).mono fun e w' ⟨he,hw⟩=>?_
 rw [U4,a3f] at he
 have e1:decide (0≤(if c∈t then (k8 t c:Int) else -1))=decide (c∈t):=by
  by_cases h:c∈t
  · rw [if_pos h,decide_eq_true h,decide_eq_true (by omega)]
  · rw [if_neg h,decide_eq_false h];rfl
 rw [e1] at he
 exact ⟨he,a1j hw⟩
theorem a64 {t:Tx} (h:y6 t=true):∀ (j:Nat) b,(bs t).data.toList[j]?=some b→b.toNat < 128:=fun j b hb=>by
 rw [U4] at hb
 unfold y6 at h
 rw [List.all_eq_true] at h
 have:=h b (List.mem_of_getElem? hb)
 simp at this
 omega
theorem a4j (t wo:Tx) (ht:t.length < 4294967281) (hw:wo.length < 4294967281) (h1:y6 t=true) (h2:y6 wo=true):f9 Tryz.prog 154 [.val (tx t),.val (tx wo)] (.ret (.val (.bool (y5 t wo))) []) []:=by
 refine a0e (rs:=[tx t,tx wo]) (vals:=[.string (bs t),.string (bs wo)]) (v:=.bool (y5 t wo)) rfl rfl fun L w hgl hgb=>?_
 refine (Tryz.strings_ContainsAny_laid (bs t) (bs wo) w (by rw [b7];exact ht) (by rw [b7];exact hw) (a64 h1) (a64 h2)).mono fun e w' ⟨he,hw⟩=>?_
 rw [U4,U4,a83] at he
 exact ⟨he,hw⟩
theorem b9g (n:Int) (h0:-9223372036854775808≤n) (h1:n≤9223372036854775807):f9 Tryz.prog 183 [.val (num n)] (.ret (.val (tx (a17 n))) []) []:=by
 refine a0e (rs:=[num n]) (vals:=[.int .i64 n]) (v:=.string (bs (a17 n))) rfl rfl fun L w hgl hgb=>?_
 have htab:Lib.TabIs Tryz.prog w "internal/strconv.uint64pow10" .u64 Lib.pow10Tab:=by
  unfold Lib.TabIs World.var?
  have e:Tryz.prog.globalNamed "internal/strconv.uint64pow10" = some 3:=by kernel_rfl
  rw [e]
  simp only [Option.bind_some]
  rw [(hgb _ GH.h10).2]
 refine (Tryz.strconv_Itoa n h0 h1 w htab).mono fun e w' ⟨he,k,os,hw⟩=>?_
 rw [b62] at he
 exact ⟨he,hw ▸ (a63 w k).trans (b5d _ _ (Nat.le_refl _))⟩
end Go.Proofs
end
section
namespace Go.Proofs
open Go.PW Go.KP
attribute [local simp] RV.cells RV.one PV.cells PV.solid PV.one o9 d9 l4 l0 RV.ofCells elems PV.killL
section
variable [GF]
theorem a1d (a lo hi:Int):f9 Tryz.prog 106 [.val (num a),.val (num lo),.val (num hi)] (.ret (.val (.bool (decide (lo≤a∧a≤hi)))) []) []:=by
 refine f8 mixed ok106 rfl (fun _=>rfl) ?_
 unfold ir106
 rw [d8]
 by_cases h:lo≤a
 · simp [f7,j4,k9,d7,f5,num,h]
 · simp [f7,j4,k9,d7,f5,num,h]
theorem b8z (b:Bool) (n:Int):f9 Tryz.prog 125 [.val (.bool b),.val (num n)] (.ret (.val (num (if b then 0 else n))) []) []:=by
 refine f8 mixed ok125 rfl (fun _=>rfl) ?_
 unfold ir125
 rw [d8]
 cases b<;>simp [f7,j4,k9,d7,f5,num]
theorem i_long (t:Tx):f9 Tryz.prog 84 [.val (tx t)] (.ret (.val (num (if t.length≤65536 then 0 else 2))) []) []:=by
 refine f8 mixed ok84 rfl (fun _=>rfl) ?_
 unfold ir84
 rw [d8]
 have e:decide ((t.length:Int)≤65536)=decide (t.length≤65536):=by
  by_cases h:t.length≤65536
  · rw [decide_eq_true h,decide_eq_true (by omega)]
  · rw [decide_eq_false h,decide_eq_false (by omega)]
 simp [f7,j4,k9,d7,f5,tx,b7,e]
 refine b8 rfl rfl (.inl rfl) (b8z (decide (t.length≤65536)) 2) ?_
 simp [num]
theorem a6d (c:UInt8):f9 Tryz.prog 138 [.val (rvb c)] (.ret (.val (.bool (m0 c))) []) []:=by
 refine f8 mixed ok138 rfl (fun _=>rfl) ?_
 unfold ir138
 rw [d8]
 have e1:((97:Int)≤c.toNat)↔97≤c.toNat:=by omega
 have e2:((c.toNat:Int)≤122)↔c.toNat≤122:=by omega
 by_cases h:97≤c.toNat
 · simp [f7,j4,k9,d7,f5,rvb,m0,h,e1,e2]
 · simp [f7,j4,k9,d7,f5,rvb,m0,h,e1,e2]
theorem b0g (c:UInt8):f9 Tryz.prog 260 [.val (rvb c)] (.ret (.val (.bool (o5 c))) []) []:=by
 refine f8 mixed ok260 rfl (fun _=>rfl) ?_
 unfold ir260
 rw [d8]
 have e1:((48:Int)≤c.toNat)↔48≤c.toNat:=by omega
 have e2:((c.toNat:Int)≤57)↔c.toNat≤57:=by omega
 by_cases h:48≤c.toNat
 · simp [f7,j4,k9,d7,f5,rvb,o5,h,e1,e2]
 · simp [f7,j4,k9,d7,f5,rvb,o5,h,e1,e2]
theorem a8r (u:LUrl):f9 Tryz.prog 156 [.val (p6 u)] (.ret (.val (.bool (K7 u.scheme))) []) []:=by
 refine f8 mixed ok156 rfl (fun _=>rfl) ?_
 unfold ir156
 rw [d8]
 have e1:(⟨#[104,116,116,112]⟩:ByteArray)=bs a2z:=rfl
 have e2:(⟨#[104,116,116,112,115]⟩:ByteArray)=bs a4l:=rfl
 by_cases h:u.scheme=a2z
 · simp [f7,j4,k9,d7,f5,p6,tx,num,e1,e2,l5,K7,h]
 · by_cases h':u.scheme=a4l
   · simp [f7,j4,k9,d7,f5,p6,tx,num,e1,e2,l5,K7,h',show ¬ a4l=a2z by decide]
   · simp [f7,j4,k9,d7,f5,p6,tx,num,e1,e2,l5,K7,h,h']
theorem b55 (t:Tx):f9 Tryz.prog 250 [.val (tx t)] (.ret (.val (num (R2 t))) []) []:=by
 refine f8 mixed ok250 rfl (fun _=>rfl) ?_
 unfold ir250
 rw [d8]
 have e1:(⟨#[104,116,116,112]⟩:ByteArray)=bs a2z:=rfl
 by_cases h:t=a2z
 · simp [f7,j4,k9,d7,f5,tx,e1,l5,R2,h,num]
 · simp [f7,j4,k9,d7,f5,tx,e1,l5,R2,h,num]
theorem b4v (t:Tx) (ht:t.length < 1099511627776):f9 Tryz.prog 273 [.val (tx t)] (.ret (.val (.bool (y6 t))) []) []:=by
 refine f8 mixed ok273 rfl (fun _=>rfl) ?_
 unfold ir273
 rw [d8]
 simp [f7,j4,k9,d7,f5,tx,b7]
 refine y8 (X:=Nat) (fun i=>⟨D2 [(0,.val (tx t)),(5,.val (num t.length)),(6,.val (num i))],D0 []⟩) (fun i=>i≤t.length∧y6 (t.take i)=true) (fun i=>t.length - i) 0 (Le.mk _ _ ?_ ?_) ?_ ?_
 · simp [upd,num,tx]
 · simp
 · simp [y6]
 · rintro i ⟨hi,hinv⟩
   simp [num,tx]
   refine j7 (fun h1=>?_) (fun h1=>?_)
   · simp [tx,num,b7,f6,h1]
     have hw:IntKind.i64.wrap (t[i].toNat:Int)=(t[i].toNat:Int):=wrap_i64 (by omega) (by have:=t[i].toNat_lt;omega)
     refine b8 rfl rfl (.inl rfl) (by rw [hw];exact a1d (t[i].toNat:Int) 33 126) ?_
     have e:decide ((33:Int)≤(t[i].toNat:Int)∧(t[i].toNat:Int)≤126)=decide (33≤t[i].toNat∧t[i].toNat≤126):=by
      by_cases h:33≤t[i].toNat∧t[i].toNat≤126
      · rw [decide_eq_true h,decide_eq_true (by omega)]
      · rw [decide_eq_false h,decide_eq_false (by omega)]
     rw [e]
     have hs:y6 (t.take (i+1))=(y6 (t.take i) && decide (33≤t[i].toNat∧t[i].toNat≤126)):=X0 _ _ _ h1
     cases hd:decide (33≤t[i].toNat∧t[i].toNat≤126) with
     | true=>
      simp
      refine LoopNext.mk (i+1) ⟨by omega,?_⟩ (by omega) (Le.mk _ _ ?_ ?_)
      · rw [hs,hinv,hd];rfl
      · simp [num,tx];exact wrap_i64 (by omega) (by omega)
      · simp
     | false=>
      have:y6 t=false:=by
       unfold y6
       rw [List.all_eq_false]
       exact ⟨t[i],List.getElem_mem h1,by rw [hd];simp⟩
      rw [this]
      simp
   · have e:i=t.length:=by omega
     subst e
     rw [List.take_length] at hinv
     simp [hinv]
def a45 (i:Nat) (c:UInt8):Bool:=decide (i=0) || (!o5 c && !decide (c.toNat=45) && !decide (c.toNat=43) && !decide (c.toNat=46))
theorem sch_eq (i:Nat) (c:UInt8):(!m0 c && a45 i c)=!(if i=0 then m0 c else K5 c):=by
 unfold a45 K5
 have e:decide (c.toNat=45∨c.toNat=43∨c.toNat=46)=(decide (c.toNat=45) || decide (c.toNat=43) || decide (c.toNat=46)):=by
  by_cases h1:c.toNat=45<;>by_cases h2:c.toNat=43<;>by_cases h3:c.toNat=46<;>simp [h1,h2,h3]
 rw [e]
 by_cases h:i=0
 · simp [h]
 · simp only [h,decide_false,Bool.false_or,if_false]
   cases m0 c<;>cases o5 c<;>cases decide (c.toNat=45)<;>cases decide (c.toNat=43)<;>cases decide (c.toNat=46)<;>rfl
structure SS (st:St) (t:Tx) (i m:Nat) (c:UInt8):Prop where
 e0:st.env 0=.val (tx t)
 e3:st.env 3=.val (num i)
 e4:st.env 4=.val (rvb c)
 e7:st.env 7=.val (num m)
 e8:st.env 8=.val (num i)
theorem sops18 {Ks:Kx (St→Prop)} {kx:Kx (RV→St→Prop)} {st:St} {t:Tx} {i m:Nat} {c:UInt8} {b:Bool} (h:SS st t i m c) (hb:st.env 17=.val (.bool b)) (hK:∀ st',SS st' t i m c→st'.env 37=.val (.bool (b && a45 i c))→Ks.k st'):EO Tryz.prog ir272_o18 st (Ks:=Ks) (kx:=kx):=by
 unfold ir272_o18
 cases b with
 | false=>
  simp [hb]
  refine hK _ ⟨?_,?_,?_,?_,?_⟩ ?_<;>simp [h.e0,h.e3,h.e4,h.e7,h.e8]
 | true=>
  by_cases h0:i=0
  · subst h0
    simp [hb,h.e3,num]
    refine hK _ ⟨?_,?_,?_,?_,?_⟩ ?_<;>simp [h.e0,h.e3,h.e4,h.e7,h.e8,a45]
  · simp [hb,h.e3,h.e4,num,h0,rvb]
    refine b8 rfl rfl (.inl rfl) (b0g c) ?_
    have e3:((c.toNat:Int)=45)↔c.toNat=45:=by omega
    have e4:((c.toNat:Int)=43)↔c.toNat=43:=by omega
    have e5:((c.toNat:Int)=46)↔c.toNat=46:=by omega
    cases hd:o5 c with
    | true=>
     simp [hb,h.e3,h.e4,rvb,h0]
     refine hK _ ⟨?_,?_,?_,?_,?_⟩ ?_<;>simp [h.e0,h.e3,h.e4,h.e7,h.e8,a45,h0,hd,num,rvb]
    | false=>
     by_cases h1:c.toNat=45
     · simp [hb,h.e3,h.e4,rvb,h0,e3,e4,e5,h1]
       refine hK _ ⟨?_,?_,?_,?_,?_⟩ ?_<;>simp [h.e0,h.e3,h.e4,h.e7,h.e8,a45,h0,hd,h1,num,rvb]
     · by_cases h2:c.toNat=43
       · simp [hb,h.e3,h.e4,rvb,h0,e3,e4,e5,h1,h2]
         refine hK _ ⟨?_,?_,?_,?_,?_⟩ ?_<;>simp [h.e0,h.e3,h.e4,h.e7,h.e8,a45,h0,hd,h1,h2,num,rvb]
       · by_cases h3:c.toNat=46
         · simp [hb,h.e3,h.e4,rvb,h0,e3,e4,e5,h1,h2,h3]
           refine hK _ ⟨?_,?_,?_,?_,?_⟩ ?_<;>simp [h.e0,h.e3,h.e4,h.e7,h.e8,a45,h0,hd,h1,h2,h3,num,rvb]
         · have e3':¬ ((c.toNat:Int)=45):=by omega
           have e4':¬ ((c.toNat:Int)=43):=by omega
           have e5':¬ ((c.toNat:Int)=46):=by omega
           simp [hb,h.e3,h.e4,rvb,h0,e3,e4,e5,h1,h2,h3]
           refine hK _ ⟨?_,?_,?_,?_,?_⟩ ?_<;>simp [h.e0,h.e3,h.e4,h.e7,h.e8,a45,h0,hd,h1,h2,h3,num,rvb,e5']
theorem b4u (t:Tx) (ht:t.length < 1099511627776):f9 Tryz.prog 272 [.val (tx t)] (.ret (.val (.bool (J9 t))) []) []:=by
 refine f8 mixed ok272 rfl (fun _=>rfl) ?_
 unfold ir272
 rw [d8]
 have hmn:(if (13:Int) < (t.length:Int) then 13 else (t.length:Int))=((min t.length 13:Nat):Int):=by split<;>omega
 simp [f7,j4,k9,d7,f5,tx,b7,hmn]
 refine y8 (X:=Nat) (fun i=>⟨D2 [(0,.val (tx t)),(7,.val (num (min t.length 13:Nat))),(8,.val (num i))],D0 []⟩) (fun i=>i≤min t.length 13∧a0s (t.take i)=true) (fun i=>t.length - i) 0 (Le.mk _ _ ?_ ?_) ?_ ?_
 · simp [upd,num,tx]
 · simp
 · simp [a0s]
 · rintro i ⟨hi,hinv⟩
   have hib:((i:Int) < ((min t.length 13:Nat):Int))↔i < min t.length 13:=by omega
   unfold ir272_l9
   by_cases h1:i < min t.length 13
   · have h1t:i < t.length:=by omega
     have h1':i < t.length∧i < 13:=by omega
     simp [num,tx,hib,h1,h1'.1,h1'.2,b7,f6]
     refine b8 rfl rfl (.inl rfl) (a6d t[i]) ?_
     simp
     refine sops18 (t:=t) (i:=i) (m:=min t.length 13) (c:=t[i]) (b:=!m0 t[i]) ⟨?_,?_,?_,?_,?_⟩ ?_ (fun st' q1 q2=>?_)
     · simp [tx]
     · simp [num]
     · simp [rvb]
     · simp [num]
     · simp [num]
     · simp
     · rw [sch_eq] at q2
       simp only [B8,J2,C0,J0,C1,x3,B9,J1,p7,D9,L6,L7,l3,w7,w8,o2,C2,x2,o4,I9,B7,x1,w9,H0,H1,a4s,a4t,Option.getD_some,Option.getD_none,F7,x8,u7,G7,u6,u0,G9,u1,G8,G6,G5,M1,A7,u4,G3,A5,u3,G2,F5,G4,A6,G0,t8,A4,G1,M3,M2,F6,F8,u2,F9,A8,u5,E5,p9,F4,F3,F2,L8,A2,q8,F0,A0,q7,E9,E3,F1,A1,E7,p8,z8,E8,M0,L9,E4,z7,s9,E6,A3,q9,O0,N9,P1,O1,O5,O3,O2,P0,O4,O6,O7,O8,O9,C5,C4,C3,R8,R9,n5,J3,y0,H5,B0,P3,x6,X7,S3,K2,T6,T8,T7,X8,X9,N2,N4,N3,N5,N6,T3,B2,T2,H7,H8,H9,B3,a42,I6,B6,X5,X6,M4,S0,S1,Option.map_some,Option.map_none,I0,B4,A9,u9,H3,H4,M6,M5,U3,U2,N8,I7,I8,N7,T9,U0,M8,v8,M9,v7,S8,I5,I4,o3,T5,U1,N1,S9,T1,T0,B1,D6,D8,D7,n6,T4,Y1,Y0,S6,N0,a1f,S7,w6,I2,I3,B5,I1,o1,y9,n8,z6,n7,P2,U5,U6,C6,C7,J5,J4,H2,q2]
       have hsucc:=a6n t i h1t
       cases hgood:(if i=0 then m0 t[i] else K5 t[i]) with
       | true=>
        refine j7 (fun h=>by simp at h) (fun _=>?_)
        simp [q1.e8,num]
        refine LoopNext.mk (i+1) ⟨by omega,?_⟩ (by omega) (Le.mk _ _ ?_ ?_)
        · rw [hsucc,hinv,hgood];rfl
        · simp [num,tx,q1.e0,q1.e7];exact wrap_i64 (by omega) (by omega)
        · simp
       | false=>
        refine j7 (fun _=>?_) (fun h=>by simp at h)
        have:J9 t=false:=by
         unfold J9
         rw [a44 t i h1t hgood,Bool.and_false]
        rw [this]
        simp
   · have e:i=min t.length 13:=by omega
     simp [num,tx,hib,h1,b7]
     refine b8 rfl rfl (.inl rfl) (a1d t.length 1 12) ?_
     have:J9 t=decide ((1:Int)≤(t.length:Int)∧(t.length:Int)≤12):=by
      unfold J9
      by_cases hl:t.length≤12
      · have:i=t.length:=by omega
        subst this
        rw [List.take_length] at hinv
        rw [hinv,Bool.and_true]
        by_cases h0:1≤t.length
        · rw [decide_eq_true (by omega),decide_eq_true (by omega)]
        · rw [decide_eq_false (by omega),decide_eq_false (by omega)]
      · rw [decide_eq_false (by omega),decide_eq_false (by omega)];rfl
     rw [this]
     simp
end
section
variable [GH]
theorem b65 (n:Int) (h0:-9223372036854775808≤n) (h1:n≤9223372036854775807):f9 Tryz.prog 120 [.val (num n)] (.ret (.val (tx (a17 n))) []) []:=by
 refine f8 mixed ok120 rfl (fun _=>rfl) ?_
 unfold ir120
 rw [d8]
 simp [f7,j4,k9,d7,f5,num]
 refine b8 rfl rfl (.inl rfl) (b9g n h0 h1) ?_
 simp
end
end Go.Proofs
end
section
namespace Go.Proofs
open Go.PW Go.KP
variable [GF]
structure HS (st:St) (t:Tx) (i:Nat) (c:UInt8):Prop where
 e0:st.env 0=.val (tx t)
 e3:st.env 3=.val (num i)
 e4:st.env 4=.val (rvb c)
 e6:st.env 6=.val (num t.length)
 e7:st.env 7=.val (num i)
section
variable {Ks:Kx (St→Prop)} {kx:Kx (RV→St→Prop)} {st:St} {t:Tx} {i:Nat} {c:UInt8} {b:Bool}
def b68 (t:Tx) (i:Nat):Bool:=decide ((t.getD (i - 1) 0).toNat=46)
theorem b4x (hi:i < t.length) (hl:t.length < 1099511627776) (h:HS st t i c) (hb:st.env 43=.val (.bool b)) (h0:b=false→i≠0) (hK:∀ st',HS st' t i c→st'.env 49=.val (.bool (b || b68 t i))→Ks.k st'):EO Tryz.prog ir274_o44 st (Ks:=Ks) (kx:=kx):=by
 unfold ir274_o44
 cases b with
 | true=>
  simp [hb]
  refine hK _ ⟨?_,?_,?_,?_,?_⟩ ?_<;>simp [h.e0,h.e3,h.e4,h.e6,h.e7]
 | false=>
  have hi0:=h0 rfl
  have hw:IntKind.i64.wrap ((i:Int) - 1)=((i - 1:Nat):Int):=by rw [wrap_i64 (by omega) (by omega)];omega
  have hi1:i - 1 < t.length:=by omega
  have e46:((t[i - 1].toNat:Int)=46)↔t[i - 1].toNat=46:=by omega
  by_cases h1:t[i - 1].toNat=46
  · simp [hb,h.e0,h.e3,h.e4,h.e6,h.e7,tx,num,rvb,b7,f6,hw,hi1,e46,h1]
    refine hK _ ⟨?_,?_,?_,?_,?_⟩ ?_<;>simp [h.e0,h.e3,h.e4,h.e6,h.e7,tx,num,rvb,b68,List.getElem?_eq_getElem hi1,h1]
  · have h1':((t[i - 1].toNat:Int) == 46)=false:=by simp;omega
    simp [hb,h.e0,h.e3,h.e4,h.e6,h.e7,tx,num,rvb,b7,f6,hw,hi1,e46,h1,h1']
    refine hK _ ⟨?_,?_,?_,?_,?_⟩ ?_<;>simp [h.e0,h.e3,h.e4,h.e6,h.e7,tx,num,rvb,b68,List.getElem?_eq_getElem hi1,h1,h1']
def b69 (t:Tx) (i:Nat):Bool:=decide ((t.getD (i - 1) 0).toNat=45) || b68 t i
theorem b4y (hi:i < t.length) (hl:t.length < 1099511627776) (h:HS st t i c) (hb:st.env 36=.val (.bool b)) (h0:b=false→i≠0) (hK:∀ st',HS st' t i c→st'.env 49=.val (.bool (b || b69 t i))→Ks.k st'):EO Tryz.prog ir274_o37 st (Ks:=Ks) (kx:=kx):=by
 unfold ir274_o37
 cases b with
 | true=>
  simp [hb]
  refine b4x (b:=true) (t:=t) (i:=i) (c:=c) hi hl ⟨?_,?_,?_,?_,?_⟩ ?_ (by simp) (fun st' q1 q2=>hK st' q1 (by simpa using q2))<;>simp [h.e0,h.e3,h.e4,h.e6,h.e7]
 | false=>
  have hi0:=h0 rfl
  have hw:IntKind.i64.wrap ((i:Int) - 1)=((i - 1:Nat):Int):=by rw [wrap_i64 (by omega) (by omega)];omega
  have hi1:i - 1 < t.length:=by omega
  have e46:((t[i - 1].toNat:Int)=45)↔t[i - 1].toNat=45:=by omega
  by_cases h1:t[i - 1].toNat=45
  · simp [hb,h.e0,h.e3,h.e4,h.e6,h.e7,tx,num,rvb,b7,f6,hw,hi1,e46,h1]
    refine b4x (b:=true) (t:=t) (i:=i) (c:=c) hi hl ⟨?_,?_,?_,?_,?_⟩ ?_ (by simp) (fun st' q1 q2=>hK st' q1 (by rw [q2];simp [b69,List.getElem?_eq_getElem hi1,h1]))<;>simp [h.e0,h.e3,h.e4,h.e6,h.e7,tx,num,rvb]
  · have h1':((t[i - 1].toNat:Int) == 45)=false:=by simp;omega
    simp [hb,h.e0,h.e3,h.e4,h.e6,h.e7,tx,num,rvb,b7,f6,hw,hi1,e46,h1,h1']
    refine b4x (b:=false) (t:=t) (i:=i) (c:=c) hi hl ⟨?_,?_,?_,?_,?_⟩ ?_ (fun _=>hi0) (fun st' q1 q2=>hK st' q1 (by rw [q2];simp [b69,List.getElem?_eq_getElem hi1,h1]))<;>simp [h.e0,h.e3,h.e4,h.e6,h.e7,tx,num,rvb]
def b7a (t:Tx) (i:Nat):Bool:=decide (i=t.length - 1) || b69 t i
theorem b4z (hi:i < t.length) (hl:t.length < 1099511627776) (h:HS st t i c) (hb:st.env 29=.val (.bool b)) (h0:b=false→i≠0) (hK:∀ st',HS st' t i c→st'.env 49=.val (.bool (b || b7a t i))→Ks.k st'):EO Tryz.prog ir274_o30 st (Ks:=Ks) (kx:=kx):=by
 unfold ir274_o30
 cases b with
 | true=>
  simp [hb]
  refine b4y (b:=true) (t:=t) (i:=i) (c:=c) hi hl ⟨?_,?_,?_,?_,?_⟩ ?_ (by simp) (fun st' q1 q2=>hK st' q1 (by simpa using q2))<;>simp [h.e0,h.e3,h.e4,h.e6,h.e7]
 | false=>
  have hi0:=h0 rfl
  have hw:IntKind.i64.wrap ((t.length:Int) - 1)=((t.length - 1:Nat):Int):=by rw [wrap_i64 (by omega) (by omega)];omega
  have e:((i:Int) == ((t.length - 1:Nat):Int))=decide (i=t.length - 1):=by
   rw [Bool.eq_iff_iff];simp;omega
  simp only [B8,J2,C0,J0,C1,x3,B9,J1,p7,D9,L6,L7,l3,w7,w8,o2,C2,x2,o4,I9,B7,x1,w9,H0,H1,a4s,a4t,Option.getD_some,Option.getD_none,F7,x8,u7,G7,u6,u0,G9,u1,G8,G6,G5,M1,A7,u4,G3,A5,u3,G2,F5,G4,A6,G0,t8,A4,G1,M3,M2,F6,F8,u2,F9,A8,u5,E5,p9,F4,F3,F2,L8,A2,q8,F0,A0,q7,E9,E3,F1,A1,E7,p8,z8,E8,M0,L9,E4,z7,s9,E6,A3,q9,O0,N9,P1,O1,O5,O3,O2,P0,O4,O6,O7,O8,O9,C5,C4,C3,R8,R9,n5,J3,y0,H5,B0,P3,x6,X7,S3,K2,T6,T8,T7,X8,X9,N2,N4,N3,N5,N6,T3,B2,T2,H7,H8,H9,B3,a42,I6,B6,X5,X6,M4,S0,S1,Option.map_some,Option.map_none,I0,B4,A9,u9,H3,H4,M6,M5,U3,U2,N8,I7,I8,N7,T9,U0,M8,v8,M9,v7,S8,I5,I4,o3,T5,U1,N1,S9,T1,T0,B1,D6,D8,D7,n6,T4,Y1,Y0,S6,N0,a1f,S7,w6,I2,I3,B5,I1,o1,y9,n8,z6,n7,P2,U5,U6,C6,C7,J5,J4,H2,hb,h.e0,h.e3,h.e4,h.e6,h.e7,tx,num,rvb,b7,hw,e]
  refine j7 (fun _=>?_) (fun h=>absurd rfl h)
  by_cases h1:i=t.length - 1
  · simp [hb,h.e0,h.e3,h.e4,h.e6,h.e7,tx,num,rvb,b7,hw,e,(eq_true h1:(i=t.length - 1)=True)]
    refine b4y (b:=true) (t:=t) (i:=i) (c:=c) hi hl ⟨?_,?_,?_,?_,?_⟩ ?_ (by simp) (fun st' q1 q2=>hK st' q1 (by rw [q2];simp [b7a,(eq_true h1:(i=t.length - 1)=True)]))<;>simp [h.e0,h.e3,h.e4,h.e6,h.e7,tx,num,rvb]
  · simp [hb,h.e0,h.e3,h.e4,h.e6,h.e7,tx,num,rvb,b7,hw,e,h1]
    refine b4y (b:=false) (t:=t) (i:=i) (c:=c) hi hl ⟨?_,?_,?_,?_,?_⟩ ?_ (fun _=>hi0) (fun st' q1 q2=>hK st' q1 (by rw [q2];simp [b7a,h1]))<;>simp [h.e0,h.e3,h.e4,h.e6,h.e7,tx,num,rvb]
def a9x (t:Tx) (i:Nat):Bool:=decide (i=0) || b7a t i
theorem b40 (hi:i < t.length) (hl:t.length < 1099511627776) (h:HS st t i c) (hb:st.env 25=.val (.bool b)) (hK:∀ st',HS st' t i c→st'.env 49=.val (.bool (b || a9x t i))→Ks.k st'):EO Tryz.prog ir274_o26 st (Ks:=Ks) (kx:=kx):=by
 unfold ir274_o26
 cases b with
 | true=>
  simp [hb]
  refine b4z (b:=true) (t:=t) (i:=i) (c:=c) hi hl ⟨?_,?_,?_,?_,?_⟩ ?_ (by simp) (fun st' q1 q2=>hK st' q1 (by simpa using q2))<;>simp [h.e0,h.e3,h.e4,h.e6,h.e7]
 | false=>
  by_cases h1:i=0
  · subst h1
    simp [hb,h.e0,h.e3,h.e4,h.e6,h.e7,tx,num,rvb,b7]
    refine b4z (b:=true) (t:=t) (i:=0) (c:=c) hi hl ⟨?_,?_,?_,?_,?_⟩ ?_ (by simp) (fun st' q1 q2=>hK st' q1 (by rw [q2];simp [a9x]))<;>simp [h.e0,h.e3,h.e4,h.e6,h.e7,tx,num,rvb]
  · simp [hb,h.e0,h.e3,h.e4,h.e6,h.e7,tx,num,rvb,b7,h1]
    refine b4z (b:=false) (t:=t) (i:=i) (c:=c) hi hl ⟨?_,?_,?_,?_,?_⟩ ?_ (fun _=>h1) (fun st' q1 q2=>hK st' q1 (by rw [q2];simp [a9x,h1]))<;>simp [h.e0,h.e3,h.e4,h.e6,h.e7,tx,num,rvb,h1]
end
def a19 (t:Tx) (i:Nat) (c:UInt8):Bool:=(!decide (c.toNat=45) && !decide (c.toNat=46)) || a9x t i
theorem b86 {K:Kx (PExit→St→Prop)} {st:St} {t:Tx} {i:Nat} {c:UInt8} (hi:i < t.length) (hl:t.length < 1099511627776) (h:HS st t i c)
 (hR:a19 t i c=true→∀ st',st'.env 2=.val (.bool false)→K.k .ret st') (hN:a19 t i c=false→∀ st',HS st' t i c→K.k .normal st'):EC Tryz.prog ir274_s19 st (K:=K):=by
 unfold ir274_s19
 have hend:∀ b,b=(!decide (c.toNat=45) && !decide (c.toNat=46))→∀ st':St,HS st' t i c→st'.env 49=.val (.bool (b || a9x t i)) →
  CD (st'.env 49) (A:=⟨EC Tryz.prog (.seq (.reg [⟨some 2,.mov (.k (.val (.bool false))),none⟩]) .ret) st' (K:=K)⟩) (B:=⟨EC Tryz.prog .skip st' (K:=K)⟩):=by
  intro b hb st' q1 q2
  rw [q2]
  have e:(b || a9x t i)=a19 t i c:=by rw [hb];rfl
  rw [e]
  cases hbd:a19 t i c with
  | true=>
   simp
   exact hR hbd _ (by simp)
  | false=>
   simp
   exact hN hbd _ q1
 have e3:((c.toNat:Int)=45)↔c.toNat=45:=by omega
 have e5:((c.toNat:Int)=46)↔c.toNat=46:=by omega
 by_cases h1:c.toNat=45
 · simp [h.e0,h.e3,h.e4,h.e6,h.e7,tx,num,rvb,e3,e5,h1]
   refine b40 (b:=false) (t:=t) (i:=i) (c:=c) hi hl ⟨?_,?_,?_,?_,?_⟩ ?_ (fun st' q1 q2=>hend false (by simp [h1]) st' q1 q2)<;>simp [h.e0,h.e3,h.e4,h.e6,h.e7,tx,num,rvb,h1]
 · by_cases h2:c.toNat=46
   · simp [h.e0,h.e3,h.e4,h.e6,h.e7,tx,num,rvb,e3,e5,h1,h2]
     refine b40 (b:=false) (t:=t) (i:=i) (c:=c) hi hl ⟨?_,?_,?_,?_,?_⟩ ?_ (fun st' q1 q2=>hend false (by simp [h2]) st' q1 q2)<;>simp [h.e0,h.e3,h.e4,h.e6,h.e7,tx,num,rvb,h2]
   · have h2':((c.toNat:Int) == 46)=false:=by simp;omega
     simp [h.e0,h.e3,h.e4,h.e6,h.e7,tx,num,rvb,e3,e5,h1,h2,h2']
     refine b40 (b:=true) (t:=t) (i:=i) (c:=c) hi hl ⟨?_,?_,?_,?_,?_⟩ ?_ (fun st' q1 q2=>hend true (by simp [h1,h2]) st' q1 q2)<;>simp [h.e0,h.e3,h.e4,h.e6,h.e7,tx,num,rvb,h1,h2]
     all_goals omega
def W7 (c:UInt8):Bool:=m0 c || o5 c
def Y3 (t:Tx) (i:Nat):Bool:=decide (i=0) || !W7 (t.getD (i - 1) 0)
theorem a79 {c:UInt8} (h:c.toNat=45∨c.toNat=46):W7 c=false:=by
 unfold W7 m0 o5
 rcases h with h | h<;>simp [h]
theorem b84 (t:Tx) (ht:t.length < 1099511627776):f9 Tryz.prog 274 [.val (tx t)] (.ret (.val (.bool (V3 t))) []) []:=by
 refine f8 mixed ok274 rfl (fun _=>rfl) ?_
 unfold ir274
 rw [d8]
 simp [f7,j4,k9,d7,f5,tx,b7]
 refine y8 (X:=Nat) (fun i=>⟨D2 [(0,.val (tx t)),(6,.val (num t.length)),(7,.val (num i))],D0 []⟩) (fun i=>i≤t.length∧V3 t=C8 (Y3 t i) (t.drop i)∧(0 < i→W7 (t.getD (i - 1) 0)=true∨((t.getD (i - 1) 0).toNat=45∨(t.getD (i - 1) 0).toNat=46)∧i < t.length)) (fun i=>t.length - i) 0 (Le.mk _ _ ?_ ?_) ?_ ?_
 · simp [upd,num,tx]
 · simp
 · simp [Y3,V3]
 · rintro i ⟨hi,hinv,hprev⟩
   unfold ir274_l8
   simp [num,tx]
   refine j7 (fun h1=>?_) (fun h1=>?_)
   · have hstep:=a8m (Y3 t i) t i h1
     have hg1:t.getD (i+1 - 1) 0=t[i]:=by rw [Nat.add_sub_cancel];exact a1s _ _ _ h1
     have hl1:Y3 t (i+1)=!W7 t[i]:=by
      unfold Y3
      rw [hg1];simp
     have hnext:∀ st':St,st'.env 0=.val (tx t)→st'.env 6=.val (num t.length)→st'.env 7=.val (num ((i:Int)+1))→V3 t=C8 (!W7 t[i]) (t.drop (i+1))→(W7 t[i]=true∨(t[i].toNat=45∨t[i].toNat=46)∧i+1 < t.length) →
      ∃ x',(x'≤t.length∧V3 t=C8 (Y3 t x') (t.drop x')∧(0 < x'→W7 (t.getD (x' - 1) 0)=true∨((t.getD (x' - 1) 0).toNat=45∨(t.getD (x' - 1) 0).toNat=46)∧x' < t.length))∧t.length - x' < t.length - i∧Le st' ⟨D2 [(0,.val (tx t)),(6,.val (num t.length)),(7,.val (num x'))],D0 []⟩:=fun st' q1 q2 q3 q4 q5=>by
      refine ⟨i+1,⟨by omega,by rw [hl1];exact q4,fun _=>by rw [hg1];exact q5⟩,by omega,Le.mk _ _ ?_ ?_⟩
      · simp [q1,q2,q3]
      · simp
     simp [tx,num,b7,f6,h1]
     refine b8 rfl rfl (.inl rfl) (a6d t[i]) ?_
     have hplain:W7 t[i]=true→V3 t=C8 (!W7 t[i]) (t.drop (i+1)):=fun hp=>by
      rw [hinv,hstep]
      have:(m0 t[i] || o5 t[i])=true:=hp
      rw [this,hp];rfl
     cases hlow:m0 t[i] with
     | true=>
      have hp:W7 t[i]=true:=by unfold W7;rw [hlow];rfl
      simp
      refine hnext _ ?_ ?_ ?_ (hplain hp) (.inl hp)
      · simp [tx]
      · simp [num]
      · simp [num];exact wrap_i64 (by omega) (by omega)
     | false=>
      simp
      refine b8 rfl rfl (.inl rfl) (b0g t[i]) ?_
      cases hdig:o5 t[i] with
      | true=>
       have hp:W7 t[i]=true:=by unfold W7;rw [hdig];simp
       simp
       refine hnext _ ?_ ?_ ?_ (hplain hp) (.inl hp)
       · simp [tx]
       · simp [num]
       · simp [num];exact wrap_i64 (by omega) (by omega)
      | false=>
       have hp:W7 t[i]=false:=by unfold W7;rw [hlow,hdig];rfl
       have hp':(m0 t[i] || o5 t[i])=false:=hp
       simp
       refine b86 (t:=t) (i:=i) (c:=t[i]) h1 ht ⟨?_,?_,?_,?_,?_⟩ (fun hbd st' q=>?_) (fun hbd st' q=>?_)
       · simp [tx]
       · simp [num]
       · simp [rvb]
       · simp [num]
       · simp [num]
       · have:V3 t=false:=by
          rw [hinv,hstep,hp']
          by_cases hcs:t[i].toNat=45∨t[i].toNat=46
          · have hb26':a9x t i=true:=by
             unfold a19 at hbd
             rcases hcs with h | h<;>simpa [h] using hbd
            have hlast:Y3 t i=true∨i=t.length - 1:=by
             unfold a9x b7a b69 b68 at hb26'
             simp only [Bool.or_eq_true,decide_eq_true_eq] at hb26'
             rcases hb26' with h | h | h | h
             · left;unfold Y3;rw [decide_eq_true h];rfl
             · right;exact h
             · left;unfold Y3;rw [a79 (.inl h)];simp
             · left;unfold Y3;rw [a79 (.inr h)];simp
            by_cases hla:Y3 t i=true
            · rw [hla];simp
            · have hei:i=t.length - 1:=hlast.resolve_left hla
              have hd:t.drop (i+1)=[]:=List.drop_eq_nil_of_le (by omega)
              rw [hd]
              cases (Y3 t i || !decide (t[i].toNat=45∨t[i].toNat=46))<;>rfl
          · rw [decide_eq_false hcs];simp
         rw [this]
         simp [q]
       · have hcs:t[i].toNat=45∨t[i].toNat=46:=by
          unfold a19 at hbd
          by_cases h45:t[i].toNat=45
          · exact .inl h45
          · by_cases h46:t[i].toNat=46
            · exact .inr h46
            · simp [h45,h46] at hbd
         have hb26':a9x t i=false:=by
          unfold a19 at hbd
          rcases hcs with h | h<;>simpa [h] using hbd
         unfold a9x b7a b69 b68 at hb26'
         simp only [Bool.or_eq_false_iff,decide_eq_false_iff_not] at hb26'
         obtain ⟨k0,k1,k2,k3⟩:=hb26'
         have hla:Y3 t i=false:=by
          unfold Y3
          rcases hprev (by omega) with h | ⟨h | h,_⟩
          · rw [h,decide_eq_false k0];rfl
          · exact absurd h k2
          · exact absurd h k3
         simp [q.e7,num]
         refine hnext _ ?_ ?_ ?_ ?_ (.inr ⟨hcs,by omega⟩)
         · simp [q.e0]
         · simp [q.e6]
         · simp [num];exact wrap_i64 (by omega) (by omega)
         · rw [hinv,hstep,hp',hla,decide_eq_true hcs,hp];rfl
   · have e:i=t.length:=by omega
     subst e
     have e3:(⟨#[]⟩:ByteArray)=bs []:=rfl
     rw [List.drop_length] at hinv
     have hfin:V3 t=!decide (t=[]):=by
      rw [hinv]
      unfold Y3
      simp only [C8]
      by_cases h0:t=[]
      · subst h0;rfl
      · have hpos:0 < t.length:=List.length_pos_iff.2 h0
        rcases hprev hpos with h | ⟨_,h⟩
        · rw [h,decide_eq_false (by omega),decide_eq_false h0];rfl
        · omega
     rw [hfin]
     simp [tx,e3,l5]
end Go.Proofs
end
section
namespace Go.Proofs
open Go.PW Go.KP
attribute [local simp] RV.cells RV.one PV.cells PV.solid PV.one o9 d9 l4 l0 RV.ofCells elems PV.killL
variable [GH]
theorem b8p (n:Int) (h0:-9223372036854775808≤n) (h1:n≤9223372036854775807):(a17 n).length≤20:=by
 unfold a17
 split
 · have:=a1c 18 (-n).toNat (by omega)
   simp;omega
 · have:=a1c 18 n.toNat (by omega)
   omega
structure UT (st:St) (u:LUrl) (pre:Tx):Prop where
 e1:st.env 1=.ptr 1 0
 e3:st.env 3=.val (tx pre)
 m1:st.mem 1=.box (b9 u)
abbrev txt (t:Tx):Kx (PExit→St→Prop):=⟨Z6 [.t 2] (.val (tx t))⟩
theorem b2v (u:LUrl) (hs:u.Small) (pre:Tx) (hp:pre.length < 5497558138880) (st:St) (h:UT st u pre) :
 EC Tryz.prog ir157_from7 st (K:=txt (pre++(if u.hasQ then 63 :: u.query else [])++(if u.hasF then 35 :: u.frag else []))):=by
 unfold ir157_from7
 obtain ⟨s1,s2,s3,s4,s5,s6,s7⟩:=hs
 have e5:(⟨#[63]⟩:ByteArray)=bs [63]:=rfl
 have e6:(⟨#[35]⟩:ByteArray)=bs [35]:=rfl
 cases hq:u.hasQ with
 | true=>
  cases hf:u.hasF with
  | true=>
   simp [h.e1,h.e3,h.m1,b9,tx,num,b7,e5,e6,j9,hq,hf]
   omega
  | false=>
   simp [h.e1,h.e3,h.m1,b9,tx,num,b7,e5,e6,j9,hq,hf]
   omega
 | false=>
  cases hf:u.hasF with
  | true=>
   simp [h.e1,h.e3,h.m1,b9,tx,num,b7,e5,e6,j9,hq,hf]
   omega
  | false=>
   simp [h.e1,h.e3,h.m1,b9,tx,num,b7,e5,e6,j9,hq,hf]
def a68 (u:LUrl):Tx:=u.path++(if u.hasQ then 63 :: u.query else [])++(if u.hasF then 35 :: u.frag else [])
theorem a6x (u:LUrl) (hs:u.Small) (pre:Tx) (hp:pre.length < 4398046511104) (st:St) (h:UT st u pre) :
 EC Tryz.prog ir157_from6 st (K:=txt (pre++a68 u)):=by
 unfold ir157_from6
 have hs':=hs
 obtain ⟨s1,s2,s3,s4,s5,s6,s7⟩:=hs
 have e:pre++a68 u=(pre++u.path)++(if u.hasQ then 63 :: u.query else [])++(if u.hasF then 35 :: u.frag else []):=by simp [a68]
 rw [e]
 simp [h.e1,h.e3,h.m1,b9,tx,num,b7,j9]
 refine ⟨by omega,?_⟩
 refine b2v u hs' (pre++u.path) (by simp;omega) _ ⟨?_,?_,?_⟩<;>simp [h.e1,h.m1,b9,tx]
theorem b2w (u:LUrl) (hs:u.Small) (hp0:-9223372036854775808≤u.port) (pre:Tx) (hp:pre.length < 4398046510080) (st:St) (h:UT st u pre) :
 EC Tryz.prog ir157_from5 st (K:=txt (pre++Z0 u.port++a68 u)):=by
 unfold ir157_from5
 have e5:(⟨#[58]⟩:ByteArray)=bs [58]:=rfl
 by_cases h0:u.port=0
 · have e:pre++Z0 u.port++a68 u=pre++a68 u:=by simp [Z0,h0]
   rw [e]
   simp [h.e1,h.e3,h.m1,b9,tx,num,b7,j9,h0]
   refine a6x u hs pre (by omega) _ ⟨?_,?_,?_⟩<;>simp [h.e1,h.e3,h.m1,b9,tx,num,h0]
 · have e:pre++Z0 u.port++a68 u=(pre++58 :: a17 u.port)++a68 u:=by simp [Z0,h0]
   rw [e]
   simp [h.e1,h.e3,h.m1,b9,tx,num,b7,j9,h0]
   refine b8 rfl rfl (.inl rfl) (b65 u.port hp0 hs.2.2.2.2.2.2) ?_
   have hl:=b8p u.port hp0 hs.2.2.2.2.2.2
   simp [tx,num,b7,j9,e5]
   refine ⟨by omega,by omega,?_⟩
   refine a6x u hs (pre++58 :: a17 u.port) (by simp;omega) _ ⟨?_,?_,?_⟩<;>simp [h.e1,h.e3,h.m1,b9,tx,num]
theorem a6y (u:LUrl) (hs:u.Small) (hp0:-9223372036854775808≤u.port) (pre:Tx) (hp:pre.length < 3298534882300) (st:St) (h:UT st u pre) :
 EC Tryz.prog ir157_from4 st (K:=txt (pre++u.host++Z0 u.port++a68 u)):=by
 unfold ir157_from4
 have hs':=hs
 obtain ⟨s1,s2,s3,s4,s5,s6,s7⟩:=hs
 simp [h.e1,h.e3,h.m1,b9,tx,num,b7,j9]
 refine ⟨by omega,?_⟩
 refine b2w u hs' hp0 (pre++u.host) (by simp;omega) _ ⟨?_,?_,?_⟩<;>simp [h.e1,h.m1,b9,tx,num]
theorem b2x (u:LUrl) (hs:u.Small) (hp0:-9223372036854775808≤u.port) (st:St) (e1:st.env 1=.ptr 1 0) (m1:st.mem 1=.box (b9 u)) :
 EC Tryz.prog ir157_from2 st (K:=txt (u.scheme++[58,47,47]++(if u.user=[] then [] else u.user++[64])++u.host++Z0 u.port++a68 u)):=by
 unfold ir157_from2
 have hs':=hs
 obtain ⟨s1,s2,s3,s4,s5,s6,s7⟩:=hs
 have q1:(⟨#[58,47,47]⟩:ByteArray)=bs [58,47,47]:=rfl
 have q2:(⟨#[]⟩:ByteArray)=bs []:=rfl
 have q3:(⟨#[64]⟩:ByteArray)=bs [64]:=rfl
 by_cases hu:u.user=[]
 · rw [if_pos hu,List.append_nil]
   simp [e1,m1,b9,tx,num,b7,j9,q1,q2,q3,l5,hu]
   refine ⟨by omega,?_⟩
   refine a6y u hs' hp0 (u.scheme++[58,47,47]) (by simp;omega) _ ⟨?_,?_,?_⟩<;>simp [e1,m1,b9,tx,num,hu]
 · rw [if_neg hu]
   simp [e1,m1,b9,tx,num,b7,j9,q1,q2,q3,l5,hu]
   refine ⟨by omega,by omega,by omega,?_⟩
   refine a6y u hs' hp0 (u.scheme++[58,47,47]++(u.user++[64])) (by simp;omega) _ ⟨?_,?_,?_⟩<;>simp [e1,m1,b9,tx,num]
theorem b4t (u:LUrl) (hs:u.Small) (hp0:-9223372036854775808≤u.port):f9 Tryz.prog 157 [.val (p6 u)] (.ret (.val (tx (a0x u))) []) []:=by
 refine f8 mixed ok157 rfl (fun _=>rfl) ?_
 unfold ir157
 rw [d8]
 simp [f7,j4,k9,d7,f5,p6,tx,num,d9]
 refine b8 rfl rfl (.inl rfl) (a8r u) ?_
 have q1:(⟨#[58]⟩:ByteArray)=bs [58]:=rfl
 cases hw:K7 u.scheme with
 | true=>
  simp
  have e:a0x u=u.scheme++[58,47,47]++(if u.user=[] then [] else u.user++[64])++u.host++Z0 u.port++a68 u:=by simp [a0x,hw,a68]
  rw [e]
  refine b2x u hs hp0 _ ?_ ?_<;>simp [b9,tx,num]
 | false=>
  obtain ⟨s1,s2,s3,s4,s5,s6,s7⟩:=hs
  have e:a0x u=u.scheme++[58]++u.path:=by simp [a0x,hw]
  rw [e]
  simp [tx,b7,j9,q1]
  omega
end Go.Proofs
end
section
namespace Go.KP
def a2n (t:Tx):Int×Bool:=Lib.NumEnd.casesOn (motive:=fun _=>Int×Bool) (Lib.atoiAll t) (fun v=>(v,decide (Q2 t≤18) && decide (a17 v=t))) (0,false) (Lib.atoiSat t,false)
theorem b37:∀ (u:Tx) (acc:Nat),u.all o5=true→acc*10 ^ u.length+H6 u < 1000000000000000000→Lib.parseUint10 acc u=.ok (acc*10 ^ u.length+H6 u):=by
 have hlv:∀ (u:Tx) (a:Nat),u.foldl (fun n c=>n*10+(c.toNat - 48)) a=a*10 ^ u.length+H6 u:=by
  intro u
  induction u with
  | nil=>intro a;simp [H6]
  | cons c r ih=>
   intro a
   simp only [List.foldl_cons,H6,List.length_cons]
   rw [ih,ih (0*10+(c.toNat - 48)),Nat.pow_succ]
   have:(a*10+(c.toNat - 48))*10 ^ r.length=a*(10 ^ r.length*10)+(c.toNat - 48)*10 ^ r.length:=by
    rw [Nat.add_mul];congr 1;rw [Nat.mul_assoc,Nat.mul_comm 10]
   rw [this];simp [Nat.add_assoc]
 intro u
 induction u with
 | nil=>intro acc _ _;simp [Lib.parseUint10,H6]
 | cons c r ih=>
  intro acc ha hlt
  simp only [List.all_cons,Bool.and_eq_true] at ha
  have hc:=ha.1
  simp only [o5,decide_eq_true_eq] at hc
  have e:acc*10 ^ (c :: r).length+H6 (c :: r)=(acc*10+(c.toNat - 48))*10 ^ r.length+H6 r:=by
   rw [← hlv (c :: r) acc,List.foldl_cons,hlv r]
  rw [e] at hlt ⊢
  have hp:1≤10 ^ r.length:=Nat.one_le_pow _ _ (by decide)
  have hb:acc*10+(c.toNat - 48) < 1000000000000000000:=by
   have:=Nat.le_mul_of_pos_right (acc*10+(c.toNat - 48)) hp
   omega
  rw [Lib.parseUint10.eq_2,if_pos hc,if_neg (by omega),if_neg (by omega)]
  exact ih _ ha.2 hlt
theorem b54 (t:Tx):(if (a2n t).2 then some (a2n t).1 else none)=K6 t:=by
 cases hl:K6 t with
 | some n=>
  obtain ⟨h1,h2,u,h3,h4,h5,h6⟩:=a5g hl
  have hv:H6 u < 1000000000000000000:=by
   have:=a7i u h4
   have h7:H6 u < 10 ^ 18:=Nat.lt_of_lt_of_le this (Nat.pow_le_pow_right (by omega) h5)
   have h8:(10:Nat) ^ 18=1000000000000000000:=by decide
   omega
  have hpm:Lib.parseMag u=.ok (H6 u):=by
   unfold Lib.parseMag
   rw [if_neg h3,b37 u 0 h4 (by simpa using hv)]
   simp
  have key:Lib.atoiAll t=.ok n:=by
   unfold Lib.atoiAll
   rcases h6 with ⟨rfl,hn⟩ | ⟨rfl,hn⟩
   · have e45:(45:UInt8).toNat=45:=rfl
     simp only [e45,or_true,if_true,hpm,not_true,false_and,if_false,true_and]
     rw [if_neg (by omega),hn]
   · cases hu:t with
     | nil=>exact absurd hu h3
     | cons c r=>
      have hd:o5 c=true:=by rw [hu,List.all_cons,Bool.and_eq_true] at h4;exact h4.1
      simp only [o5,decide_eq_true_eq] at hd
      have e1:¬ c.toNat=43:=by omega
      have e2:¬ c.toNat=45:=by omega
      rw [hu] at hpm hn hv
      simp only [e1,e2,or_self,if_false,not_false_eq_true,true_and,false_and]
      rw [hpm]
      dsimp only
      rw [if_neg (by omega),hn]
  unfold a2n
  rw [key]
  simp only [h1,decide_true,Bool.and_true]
  rw [decide_eq_true h2];rfl
 | none=>
  rcases hv:Lib.atoiAll t with v | _ | _<;>unfold a2n<;>rw [hv]
  · dsimp only
    by_cases h:(decide (Q2 t≤18) && decide (a17 v=t))=true
    · simp only [Bool.and_eq_true,decide_eq_true_eq] at h
      have:=b1d v (by rw [h.2];exact h.1)
      rw [h.2,hl] at this
      cases this
    · rw [if_neg h]
  · rfl
  · rfl
theorem a98 {t:Tx} {v:Int} (h:Lib.atoiAll t=.ok v):-9223372036854775808≤v∧v≤9223372036854775807:=by
 unfold Lib.atoiAll at h
 split at h
 · cases h
 · dsimp only at h
   split at h
   · cases h
   · cases h
   · split at h
     · cases h
     · split at h
       · cases h
       · rename_i u _ h1 h2
         injection h with h
         split at h
         · rename_i h3
           have:¬ 9223372036854775808 < u:=fun h4=>h2 ⟨h3,h4⟩
           omega
         · rename_i h3
           have:¬ 9223372036854775808≤u:=fun h4=>h1 ⟨h3,h4⟩
           omega
theorem inum_le {t:Tx} (h:(a2n t).2=true):K6 t=some (a2n t).1:=by
 have:=b54 t
 rw [h] at this
 exact this.symm
theorem b63 {t:Tx} (h:(a2n t).2=false):K6 t=none:=by
 have:=b54 t
 rw [h] at this
 exact this.symm
end Go.KP
namespace Go.PW
open Go.RowKit
variable [GF]
theorem b7f {P:Program} {f:Nat} {rs:List RV} {vals:List Value} {p:PV} (ha:svs rs=some vals)
 (h:∀ L w,Globs L w→a9l L w→Calls P f vals.toArray w fun e w'=>(∃ v,e=.returned v∧∀ γ L,RepP γ L w' p v)∧Below w.heap.size w w'):f9 P f (rs.map .val) (.ret p []) []:=by
 intro L w vs ms hL hgl hgb hargs hnd
 obtain ⟨rfl,rfl⟩:=b1u ha hargs
 refine (h L w hgl hgb).mono fun e w' ⟨⟨v,he,hp⟩,hb⟩=>?_
 exact ⟨Outside.of_below hb,v,fun _=>undef,he,hp _ _,a6t,rfl,fun i b cells h1 h2=>by simp at h1⟩
end Go.PW
namespace Go.Proofs
open Go.PW Go.KP Go.RowKit
variable [GH]
def W4 (t:Tx):PV:=Lib.NumEnd.casesOn (motive:=fun _=>PV) (Lib.atoiAll t) (fun v=>.tup [.val (num v),.val .nilif]) (.tup [.val (num 0),.val (.ifc 259 .opq)]) (.tup [.val (num (Lib.atoiSat t)),.val (.ifc 259 .opq)])
theorem b3o (w:World) (t:ByteArray):Below w.heap.size w (Lib.bytesWorld w 5 t):=Lib.bytesWorld_below _ _ _
theorem b0w {γ:Nat→Value} {L:Nat→Prop} {w:World} {p q:PV} {v u:Value} (h1:RepP γ L w p v) (h2:RepP γ L w q u):RepP γ L w (.tup [p,q]) (.tuple #[v,u]):=
 .tup _ _ rfl fun i hi=>by
  match i,hi with
  | 0,_=>exact h1
  | 1,_=>exact h2
theorem c_Atoi (t:Tx) (ht:t.length < 4294967281):f9 Tryz.prog 277 [.val (tx t)] (.ret (W4 t) []) []:=by
 refine b7f (rs:=[tx t]) (vals:=[.string (bs t)]) rfl fun L w hgl hgb=>?_
 have hsz:(bs t).size=t.length:=b7 t
 rcases h:Lib.atoiAll t with v | _ | _
 · refine (Tryz.strconv_Atoi_ok (bs t) (by rw [hsz];omega) v (by rw [U4];exact h) w).mono fun e w' ⟨he,hw⟩=>?_
   refine ⟨⟨_,he,fun γ L=>?_⟩,?_⟩
   · unfold W4
     rw [h]
     exact b0w (.val _ _ (.int _ _)) (.val _ _ .nilif)
   · rcases hw with hw | ⟨s,hw⟩
     · exact a1j hw
     · rw [hw];exact b3o _ _
 · refine (Calls.mono (Any.strconv_Atoi_syntax Tryz.laysC172 (bs t) (by rw [hsz];omega) (by rw [U4];exact h) _ w (hgl _ GH.hs).2 (.inr ⟨_,_,rfl⟩)) fun e w' ⟨N,he,_,_,hw⟩=>?_)
   refine ⟨⟨_,he,fun γ L=>?_⟩,hw⟩
   unfold W4
   rw [h]
   exact b0w (.val _ _ (.int _ _)) (.val _ _ (.ifc _ _ _ (.opq _ rfl)))
 · refine (Tryz.strconv_Atoi_range (bs t) (by rw [hsz];omega) (by rw [U4];exact h) _ w (hgl _ GH.hr).2 (.inr ⟨_,_,rfl⟩)).mono fun e w' ⟨N,he,_,_,hw⟩=>?_
   refine ⟨⟨_,he,fun γ L=>?_⟩,hw⟩
   unfold W4
   rw [h]
   rw [U4]
   exact b0w (.val _ _ (.int _ _)) (.val _ _ (.ifc _ _ _ (.opq _ rfl)))
def a7j (t:Tx):PV:=.tup [.val (num (a2n t).1),.val (.bool (a2n t).2)]
theorem a5e (t:Tx) (ht:t.length < 4294967281) (st:St) (h0:st.env 0=.val (tx t)) (h6:st.env 6=.val (num (Q2 t)))
 (h45:(∃ v,Lib.atoiAll t=.ok v∧st.env 4=.val (num v)∧st.env 5=.val .nilif)∨(∃ n,(a2n t)=(n,false)∧st.env 4=.val (num n)∧st.env 5=.val (.ifc 259 .opq))) :
 EC Tryz.prog ir249_from4 st (K:=⟨Z6 [.t 2,.t 3] (a7j t)⟩):=by
 unfold ir249_from4 a7j
 rcases h45 with ⟨v,hv,h4,h5⟩ | ⟨n,hn,h4,h5⟩
 · have hr:=a98 hv
   have e:a2n t=(v,decide (Q2 t≤18) && decide (a17 v=t)):=by unfold a2n;rw [hv]
   rw [e]
   by_cases hd:Q2 t≤18
   · have hd':(Q2 t:Int)≤18:=by omega
     simp [h0,h4,h5,h6,tx,num,hd']
     refine b8 rfl rfl (.inl rfl) (b9g v hr.1 hr.2) ?_
     simp [h0,h4,h5,h6,tx,num,l5,hd]
   · have hd':¬ (Q2 t:Int)≤18:=by omega
     simp [h0,h4,h5,h6,tx,num,hd',hd]
 · rw [hn]
   simp [h0,h4,h5,h6,tx,num]
theorem b82 (t:Tx) (ht:t.length < 4294967281):f9 Tryz.prog 249 [.val (tx t)] (.ret (a7j t) []) []:=by
 refine f8 mixed ok249 rfl (fun _=>rfl) ?_
 unfold ir249
 rw [d8]
 have e3:(⟨#[]⟩:ByteArray)=bs []:=rfl
 have hA:=c_Atoi t ht
 simp [f7,j4,k9,d7,f5,tx]
 have hmid:∀ (a b:RV),W4 t=.tup [.val a,.val b]→((∃ v,Lib.atoiAll t=.ok v∧a=num v∧b=.nilif)∨(∃ n,(a2n t)=(n,false)∧a=num n∧b=.ifc 259 .opq)):=by
  intro a b h
  rcases hv:Lib.atoiAll t with v | _ | _
  · have e:W4 t=.tup [.val (num v),.val .nilif]:=by unfold W4;rw [hv]
    rw [e] at h
    simp only [PV.tup.injEq,List.cons.injEq,PV.val.injEq] at h
    exact .inl ⟨v,rfl,h.1.symm,h.2.1.symm⟩
  · have e:W4 t=.tup [.val (num 0),.val (.ifc 259 .opq)]:=by unfold W4;rw [hv]
    have e2:a2n t=(0,false):=by unfold a2n;rw [hv]
    rw [e] at h
    simp only [PV.tup.injEq,List.cons.injEq,PV.val.injEq] at h
    exact .inr ⟨0,e2,h.1.symm,h.2.1.symm⟩
  · have e:W4 t=.tup [.val (num (Lib.atoiSat t)),.val (.ifc 259 .opq)]:=by unfold W4;rw [hv]
    have e2:a2n t=(Lib.atoiSat t,false):=by unfold a2n;rw [hv]
    rw [e] at h
    simp only [PV.tup.injEq,List.cons.injEq,PV.val.injEq] at h
    exact .inr ⟨Lib.atoiSat t,e2,h.1.symm,h.2.1.symm⟩
 obtain ⟨a,b,hab⟩:∃ a b,W4 t=.tup [.val a,.val b]:=by
  unfold W4
  rcases Lib.atoiAll t with v | _ | _<;>exact ⟨_,_,rfl⟩
 have hm:=hmid a b hab
 rw [hab] at hA
 refine a0d rfl rfl (.inl rfl) hA ?_
 cases t with
 | nil=>
  simp [tx,b7,e3,l5]
  refine a5e [] ht _ ?_ ?_ ?_
  · simp [tx]
  · simp [num,Q2]
  · rcases hm with ⟨v,h1,rfl,rfl⟩ | ⟨n,h1,rfl,rfl⟩
    · exact .inl ⟨v,h1,by simp,by simp⟩
    · exact .inr ⟨n,h1,by simp,by simp⟩
 | cons c r=>
  have hr:r.length < 4294967280:=by simp at ht;omega
  have e0:(0:Int) < ((r.length:Int)+1):=by omega
  have fin:∀ st':St,st'.env 0=.val (tx (c :: r))→st'.env 6=.val (num (Q2 (c :: r)))→st'.env 4=.val a→st'.env 5=.val b→EC Tryz.prog ir249_from4 st' (K:=⟨Z6 [.t 2,.t 3] (a7j (c :: r))⟩):=fun st' q0 q6 q4 q5=>by
   refine a5e (c :: r) ht st' q0 q6 ?_
   rcases hm with ⟨v,h1,rfl,rfl⟩ | ⟨n,h1,rfl,rfl⟩
   · exact .inl ⟨v,h1,q4,q5⟩
   · exact .inr ⟨n,h1,q4,q5⟩
  by_cases hc:c=45
  · have e1:((c.toNat:Int)=45):=by rw [hc];rfl
    have hw:IntKind.i64.wrap ((r.length:Int)+1 - 1)=(r.length:Int):=by rw [wrap_i64 (by omega) (by omega)];omega
    simp [tx,b7,e3,l5,f6,e0,e1,hw]
    refine fin _ ?_ ?_ ?_ ?_
    · simp [tx]
    · simp [num,Q2,hc];exact wrap_i64 (by omega) (by omega)
    · simp
    · simp
  · have e1:¬ ((c.toNat:Int)=45):=fun h=>hc (UInt8.toNat_inj.1 (by simp;omega))
    simp [tx,b7,e3,l5,f6,e0,e1]
    refine fin _ ?_ ?_ ?_ ?_
    · simp [tx]
    · simp [num,Q2,hc]
    · simp
    · simp
end Go.Proofs
end
section
namespace Go.Proofs
open Go.PW Go.KP Go.RowKit
def W5 (t:Tx) (k j:Nat):UInt8:=if j < k then b2o (t.getD j 0) else t.getD j 0
def a41 (t:Tx) (B k:Nat) (wr:World):Prop:=
 (∀ j,j < t.length→wr.cell? ⟨B,j,none⟩=some (.int .u8 ((W5 t k j).toNat:Int)))∧(∀ j,j < t.length→wr.frozen? ⟨B,j,none⟩=false)
theorem b1a (t:Tx) (w:World) (cap:Nat):a41 t w.heap.size 0 (w.alloc (.cells (bytesRow (bs t) cap) 5 ((bytesRow (bs t) cap).size,(bytesRow (bs t) cap).size+1))):=by
 have hsz:(bs t).data.size=t.length:=by simp [bs]
 refine ⟨fun j hj=>?_,fun j hj=>?_⟩
 · rw [World.cell?_alloc_mark,bytesRow_at (bs t) cap j (by omega)]
   simp [W5,bs,hj]
 · rw [World.frozen?_alloc_mark]
   have:t.length≤(bytesRow (bs t) cap).size:=by simp [bytesRow,bs]
   have h2:¬ (bytesRow (bs t) cap).size≤j:=by omega
   simp [h2]
theorem b4h {t:Tx} {B k:Nat} {wr:World} (hk:k < t.length) (h:a41 t B k wr) (h1:(65:Int)≤((W5 t k k).toNat:Int)) (h2:((W5 t k k).toNat:Int)≤90) :
 a41 t B (k+1) (wr.setCell ⟨B,k,none⟩ (.int .u8 (((W5 t k k).toNat:Int)+32))):=by
 have e0:W5 t k k=t.getD k 0:=by simp [W5]
 rw [e0] at h1 h2 ⊢
 refine ⟨fun j hj=>?_,fun j hj=>by rw [World.frozen?_setCell];exact h.2 j hj⟩
 by_cases e:j=k
 · subst e
   rw [World.cell?_setCell_same _ _ _ (h.1 j hj)]
   have:W5 t (j+1) j=t.getD j 0+32:=by
    simp only [W5,Nat.lt_succ_self,if_true,b2o]
    rw [if_pos (by omega)]
   rw [this]
   congr 2
   rw [UInt8.toNat_add]
   have e32:(32:UInt8).toNat=32:=rfl
   rw [e32]
   omega
 · rw [World.cell?_setCell_other _ _ _ _ (by simp<;>omega),h.1 j hj]
   have:W5 t (k+1) j=W5 t k j:=by
    unfold W5
    by_cases hjk:j < k
    · rw [if_pos hjk,if_pos (by omega)]
    · rw [if_neg hjk,if_neg (by omega)]
   rw [this]
theorem a6w {t:Tx} {B k:Nat} {wr:World} (h:a41 t B k wr) (h1:¬ ((65:Int)≤((W5 t k k).toNat:Int)∧((W5 t k k).toNat:Int)≤90)):a41 t B (k+1) wr:=by
 have e0:W5 t k k=t.getD k 0:=by simp [W5]
 rw [e0] at h1
 refine ⟨fun j hj=>?_,h.2⟩
 rw [h.1 j hj]
 have:W5 t (k+1) j=W5 t k j:=by
  unfold W5
  by_cases hjk:j < k
  · rw [if_pos hjk,if_pos (by omega)]
  · by_cases e:j=k
    · subst e
      rw [if_pos (by omega),if_neg (by omega)]
      unfold b2o
      rw [if_neg (by omega)]
    · rw [if_neg hjk,if_neg (by omega)]
 rw [this]
theorem b6w {t:Tx} {j:Nat} (hj:j < (o8 t).length):W5 t t.length j=(o8 t)[j]:=by
 have hj':j < t.length:=by simpa [o8] using hj
 unfold W5
 rw [if_pos hj',a1s _ _ _ hj']
 simp [o8]
theorem b2n {t:Tx} {B:Nat} {wr:World} (hR:a41 t B t.length wr) (cap:Nat):(convert 148 9 (.slice (some ⟨B,0,none⟩) t.length cap)).run Tryz.prog wr=.ok (.string (bs (o8 t))) wr:=by
 have hll:(o8 t).length=t.length:=by simp [o8]
 have hback:=run_convert_bytes_back (P:=Tryz.prog) wr 148 9 5 ⟨B,0,none⟩ cap (o8 t) Tryz.underlying148 Tryz.underlying5 Tryz.underlying9 (fun j hj=>by
  have h1:=hR.1 j (by omega)
  rw [b6w hj] at h1
  have e:(Addr.add ⟨B,0,none⟩ j)=⟨B,j,none⟩:=by simp [Addr.add];omega
  rw [e]
  exact h1)
 rw [hll] at hback
 exact hback
set_option maxRecDepth 1000000 in
theorem b4g (t:Tx) (w:World) (hl:t.length < 4294967281) :
 Calls Tryz.prog 88 #[.string (bs t)] w fun e w'=>e=.returned (.string (bs (o8 t)))∧Below w.heap.size w w':=by
 have hsz:(bs t).size=t.length:=b7 t
 have hconv:=run_bytes_of_string (P:=Tryz.prog) w 9 148 5 (bs t) Tryz.underlying9 Tryz.underlying148 Tryz.underlying5
 have hll:(o8 t).length=t.length:=by simp [o8]
 go_enter Tryz.func88,Tryz.ntmps88
 go_wp2
 go_loopw [10] (fun i wr=>∃ k:Nat,k≤t.length∧i=.int .i64 k∧a41 t w.heap.size k wr∧Below w.heap.size w wr)
  (fun i _=>t.length - (intOf i).toNat)
 case atStart=>
  refine ⟨0,Nat.zero_le _,rfl,?_,?_⟩
  · have:=b1a t w (grownCap w t.length 0 5)
    exact ⟨this.1,this.2⟩
  · exact ((Below.refl _ w).alloc (Nat.le_refl _) _).drew
 case round=>
  obtain ⟨k,hk,rfl,hR,hnx⟩:=hrel
  have hck:k < t.length→wr.cell? ⟨w.heap.size,k,none⟩=some (.int .u8 ((W5 t k k).toNat:Int)):=fun h=>hR.1 k h
  have hfk:k < t.length→wr.frozen? ⟨w.heap.size,k,none⟩=false:=fun h=>hR.2 k h
  go_wp2
  · refine ⟨⟨k+1,by omega,by first | rfl | simp,b4h (by assumption) hR (by assumption) (by assumption),hnx.setCell (Nat.le_refl _) _⟩,?_⟩
    simp [intOf];omega
  · refine ⟨⟨k+1,by omega,by first | rfl | simp,a6w hR (by omega),hnx⟩,?_⟩
    simp [intOf];omega
  · refine ⟨⟨k+1,by omega,by first | rfl | simp,a6w hR (by omega),hnx⟩,?_⟩
    simp [intOf];omega
  · have hkn:k=t.length:=by omega
    subst hkn
    have hback':=b2n (wr:=wr) hR (grownCap w t.length 0 5)
    rw [hback']
    go_wp2
    go_ret
    exact ⟨rfl,hnx⟩
section
variable [GF]
theorem b57 (t:Tx) (hl:t.length < 4294967281):f9 Tryz.prog 88 [.val (tx t)] (.ret (.val (tx (o8 t))) []) []:=
 a0e (rs:=[tx t]) (vals:=[.string (bs t)]) (v:=.string (bs (o8 t))) rfl rfl fun L w hgl hgb=>b4g t w hl
end
end Go.Proofs
end
section
namespace Go.Proofs
open Go.PW Go.KP
variable [GH]
end Go.Proofs
end
section
namespace Go.Proofs
open Go.PW Go.KP
attribute [local simp] RV.cells RV.one PV.cells PV.solid PV.one o9 d9 l4 l0 RV.ofCells elems PV.killL
variable [GF]
end Go.Proofs
end
