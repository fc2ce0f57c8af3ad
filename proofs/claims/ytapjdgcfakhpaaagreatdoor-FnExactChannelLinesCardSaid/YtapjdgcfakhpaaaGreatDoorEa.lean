/- Ea: merged out of KLb, KIa, KIb, KIc, KId, KIe, KIt. -/
import Derived.Test.YtapjdgcfakhpaaaGreatDoorAc
import Derived.Test.YtapjdgcfakhpaaaGreatDoorShelf
import Derived.Test.YtapjdgcfakhpaaaGreatDoorCa
import Derived.Test.YtapjdgcfakhpaaaGreatDoorBa
import Derived.Test.YtapjdgcfakhpaaaGreatDoorProg
import Derived.WalkKit
import Derived.Laws.IdiomStrings
set_option linter.unusedSectionVars false
set_option linter.unusedSimpArgs false
set_option linter.unusedVariables false
set_option maxRecDepth 100000
section
namespace Go.KP
theorem a8h (s:Tx) (c:UInt8):Lib.indexByte s c=if c∈s then (N3 s c:Int) else -1:=by
 induction s with
 | nil=>simp [Lib.indexByte]
 | cons b l ih=>
  unfold Lib.indexByte
  by_cases h:b=c
  · subst h
    simp [N3,List.findIdx_cons]
  · have h':(b == c)=false:=by simpa using h
    have h2:N3 (b :: l) c=N3 l c+1:=by simp [N3,List.findIdx_cons,h']
    rw [h',ih,h2]
    by_cases hm:c∈l
    · have hm':c∈b :: l:=List.mem_cons_of_mem _ hm
      rw [if_pos hm,if_pos hm']
      have:(((N3 l c:Nat):Int) == -1)=false:=by rw [beq_eq_false_iff_ne];omega
      rw [this];simp
    · have hm':¬ c∈b :: l:=by simp [hm];exact fun e=>h e.symm
      rw [if_neg hm,if_neg hm']
      simp
theorem d1l (s:Tx) (c:UInt8):Lib.cut s [c]=(k6 s c,G9 s c,decide (c∈s)):=by
 unfold Lib.cut
 rw [Lib.index_one,a8h]
 by_cases h:c∈s
 · rw [if_pos h,if_pos (by omega)]
   simp [k6,G9,h]
 · rw [if_neg h,if_neg (by omega),a1z h,b0f h]
   simp [h]
theorem a8t (s wo:Tx):Lib.containsAny s wo=S1 s wo:=by
 unfold Lib.containsAny
 induction s with
 | nil=>simp [Lib.indexAny,S1]
 | cons b l ih=>
  have e:S1 (b :: l) wo=(decide (b∈wo) || S1 l wo):=rfl
  rw [e,← ih]
  rw [show Lib.indexAny (b :: l) wo=if wo.contains b then 0 else if Lib.indexAny l wo == -1 then -1 else Lib.indexAny l wo+1 from rfl]
  have hc:wo.contains b=decide (b∈wo):=by rw [Bool.eq_iff_iff];simp
  have hge:=Lib.indexAny_ge wo l
  rw [hc]
  by_cases h:b∈wo
  · simp [h]
  · simp only [h,decide_false,Bool.false_or,if_false,Bool.false_eq_true]
    by_cases h2:Lib.indexAny l wo=-1
    · simp [h2]
    · have h2':(Lib.indexAny l wo == -1)=false:=by simpa using h2
      rw [h2']
      simp only [Bool.false_eq_true,if_false]
      rw [decide_eq_true (by omega),decide_eq_true (by omega)]
theorem a8r (n:Nat):Lib.decDigits n=a23 n:=by
 induction n using Nat.strongRecOn with
 | ind n ih=>
  rw [Lib.decDigits]
  by_cases h:n < 10
  · rw [dif_pos h,a2b h]
  · rw [dif_neg h,a41 h,ih _ (by omega)]
theorem c7v (n:Int):Lib.itoa n=a0y n:=by
 unfold Lib.itoa a0y
 split
 · rw [a8r];congr 2;omega
 · rw [a8r]
end Go.KP
namespace Go.Proofs
open Go.PW Go.KP Go.RowKit
class GH extends GF where
 m:Int
 hm:(0,0,Value.int .i64 m)∈gs
 T10:TypeId
 z10:Nat×Nat
 h10:(1,Obj.cells (Lib.pow10Tab.map fun z=>Value.int .u64 z).toArray T10 z10)∈bs
 ts:TypeId
 ps:Value
 hs:(2,0,Value.iface ts ps)∈gs
 tr:TypeId
 pr:Value
 hr:(3,0,Value.iface tr pr)∈gs
variable [GH]
theorem Z8 (t:Tx):(bs t).data.toList=t:=by simp [bs]
theorem b3s {B:Nat} (w:World) (n:Nat):Below B w (w.drewN n):=⟨rfl,rfl,rfl,Nat.le_refl _,fun _ _=>rfl⟩
theorem c5t {B:Nat} (w:World) (os:Array Obj) (h:B≤w.heap.size):Below B w (Go.Sort.grow w os):=
 ⟨rfl,rfl,rfl,by simp [Go.Sort.grow],fun k hk=>by simp [Go.Sort.grow,Array.getElem?_append,Nat.lt_of_lt_of_le hk h]⟩
theorem b6r (t:Tx) (c:UInt8) (ht:t.length < 4294967281):d8 Tryz.prog 271 [.val (tx t),.val (tx [c])] (.ret (.tup [.val (tx (k6 t c)),.val (tx (G9 t c)),.val (.bool (decide (c∈t)))]) []) []:=by
 refine b6m (rs:=[tx t,tx [c]]) (qs:=[tx (k6 t c),tx (G9 t c),.bool (decide (c∈t))]) (vals:=[.string (bs t),.string (bs [c])]) (us:=[.string (bs (k6 t c)),.string (bs (G9 t c)),.bool (decide (c∈t))]) rfl rfl fun L w hgl hgb=>?_
 refine (Tryz.strings_Cut (bs t) (bs [c]) GH.m w (by rw [b8];exact ht) (hgl _ GH.hm).2).mono fun e w' ⟨he,n,hw⟩=>?_
 rw [Z8,Z8,d1l] at he
 exact ⟨he,hw ▸ b3s w n⟩
theorem c22 (t p:Tx):d8 Tryz.prog 274 [.val (tx t),.val (tx p)] (.ret (.tup [.val (tx (if p.isPrefixOf t then t.drop p.length else t)),.val (.bool (p.isPrefixOf t))]) []) []:=by
 refine b6m (rs:=[tx t,tx p]) (qs:=[tx (if p.isPrefixOf t then t.drop p.length else t),.bool (p.isPrefixOf t)]) (vals:=[.string (bs t),.string (bs p)]) (us:=[.string (bs (if p.isPrefixOf t then t.drop p.length else t)),.bool (p.isPrefixOf t)]) rfl rfl fun L w hgl hgb=>?_
 refine (Tryz.strings_CutPrefix (bs t) (bs p) w).mono fun e w' ⟨he,hw⟩=>?_
 rw [Z8,Z8] at he
 exact ⟨he,a5r hw⟩
theorem c2y (t:Tx) (c:UInt8):d8 Tryz.prog 275 [.val (tx t),.val (rvb c)] (.ret (.val (num (if c∈t then (N3 t c:Int) else -1))) []) []:=by
 refine a27 (rs:=[tx t,rvb c]) (vals:=[.string (bs t),.int .u8 c.toNat]) (v:=.int .i64 (if c∈t then (N3 t c:Int) else -1)) rfl rfl fun L w hgl hgb=>?_
 refine (Tryz.strings_IndexByte (bs t) c.toNat w).mono fun e w' ⟨he,hw⟩=>?_
 rw [Z8,Lib.byte_back,a8h] at he
 exact ⟨he,a5r hw⟩
theorem c2z (t p:Tx):d8 Tryz.prog 287 [.val (tx t),.val (tx p)] (.ret (.val (.bool (p.isPrefixOf t))) []) []:=by
 refine a27 (rs:=[tx t,tx p]) (vals:=[.string (bs t),.string (bs p)]) (v:=.bool (p.isPrefixOf t)) rfl rfl fun L w hgl hgb=>?_
 refine (Tryz.strings_HasPrefix (bs t) (bs p) w).mono fun e w' ⟨he,hw⟩=>?_
 rw [Z8,Z8] at he
 exact ⟨he,a5r hw⟩
theorem c5r (t:Tx) (c:UInt8):d8 Tryz.prog 319 [.val (tx t),.val (tx [c])] (.ret (.val (.bool (decide (c∈t)))) []) []:=by
 refine a27 (rs:=[tx t,tx [c]]) (vals:=[.string (bs t),.string (bs [c])]) (v:=.bool (decide (c∈t))) rfl rfl fun L w hgl hgb=>?_
 refine (Tryz.strings_Contains_one (bs t) c w).mono fun e w' ⟨he,hw⟩=>?_
 rw [Z8,a8h] at he
 have e1:decide (0≤(if c∈t then (N3 t c:Int) else -1))=decide (c∈t):=by
  by_cases h:c∈t
  · rw [if_pos h,decide_eq_true h,decide_eq_true (by omega)]
  · rw [if_neg h,decide_eq_false h];rfl
 rw [e1] at he
 exact ⟨he,a5r hw⟩
theorem b3t {t:Tx} (h:U1 t=true):∀ (j:Nat) b,(bs t).data.toList[j]?=some b→b.toNat < 128:=fun j b hb=>by
 rw [Z8] at hb
 unfold U1 at h
 rw [List.all_eq_true] at h
 have:=h b (List.mem_of_getElem? hb)
 simp at this
 omega
theorem a94 (t wo:Tx) (ht:t.length < 4294967281) (hw:wo.length < 4294967281) (h1:U1 t=true) (h2:U1 wo=true):d8 Tryz.prog 193 [.val (tx t),.val (tx wo)] (.ret (.val (.bool (S1 t wo))) []) []:=by
 refine a27 (rs:=[tx t,tx wo]) (vals:=[.string (bs t),.string (bs wo)]) (v:=.bool (S1 t wo)) rfl rfl fun L w hgl hgb=>?_
 refine (Tryz.strings_ContainsAny_laid (bs t) (bs wo) w (by rw [b8];exact ht) (by rw [b8];exact hw) (b3t h1) (b3t h2)).mono fun e w' ⟨he,hw⟩=>?_
 rw [Z8,Z8,a8t] at he
 exact ⟨he,hw⟩
theorem d1t (n:Int) (h0:-9223372036854775808≤n) (h1:n≤9223372036854775807):d8 Tryz.prog 198 [.val (num n)] (.ret (.val (tx (a0y n))) []) []:=by
 refine a27 (rs:=[num n]) (vals:=[.int .i64 n]) (v:=.string (bs (a0y n))) rfl rfl fun L w hgl hgb=>?_
 have htab:Lib.TabIs Tryz.prog w "internal/strconv.uint64pow10" .u64 Lib.pow10Tab:=by
  unfold Lib.TabIs World.var?
  have e:Tryz.prog.globalNamed "internal/strconv.uint64pow10" = some 1:=by kernel_rfl
  rw [e]
  simp only [Option.bind_some]
  rw [(hgb _ GH.h10).2]
 refine (Tryz.strconv_Itoa n h0 h1 w htab).mono fun e w' ⟨he,k,os,hw⟩=>?_
 rw [c7v] at he
 exact ⟨he,hw ▸ (b3s w k).trans (c5t _ _ (Nat.le_refl _))⟩
end Go.Proofs
end
section
namespace Go.Proofs
open Go.PW Go.KP
attribute [local simp] RV.cells RV.one PV.cells PV.solid PV.one G6 i7 M3 L4 RV.ofCells elems PV.killL
section
variable [GF]
theorem R9 (a lo hi:Int):d8 Tryz.prog 114 [.val (num a),.val (num lo),.val (num hi)] (.ret (.val (.bool (decide (lo≤a∧a≤hi)))) []) []:=by
 refine f8 mixed ok114 rfl (fun _=>rfl) ?_
 unfold ir114
 rw [b6]
 by_cases h:lo≤a
 · simp [d9,i6,j9,b9,d7,num,h]
 · simp [d9,i6,j9,b9,d7,num,h]
theorem i_isNow (n:Int):d8 Tryz.prog 113 [.val (num n)] (.ret (.val (.bool (decide (0≤n∧n≤1000000)))) []) []:=by
 refine f8 mixed ok113 rfl (fun _=>rfl) ?_
 unfold ir113
 rw [b6]
 simp [d9,i6,j9,b9,d7,num]
 refine b7 rfl rfl (.inl rfl) (R9 n 0 1000000) ?_
 simp
theorem d0w (b:Bool) (n:Int):d8 Tryz.prog 73 [.val (.bool b),.val (num n)] (.ret (.val (num (if b then 0 else n))) []) []:=by
 refine f8 mixed ok73 rfl (fun _=>rfl) ?_
 unfold ir73
 rw [b6]
 cases b<;>simp [d9,i6,j9,b9,d7,num]
theorem i_long (t:Tx):d8 Tryz.prog 154 [.val (tx t)] (.ret (.val (num (if t.length≤65536 then 0 else 2))) []) []:=by
 refine f8 mixed ok154 rfl (fun _=>rfl) ?_
 unfold ir154
 rw [b6]
 have e:decide ((t.length:Int)≤65536)=decide (t.length≤65536):=by
  by_cases h:t.length≤65536
  · rw [decide_eq_true h,decide_eq_true (by omega)]
  · rw [decide_eq_false h,decide_eq_false (by omega)]
 simp [d9,i6,j9,b9,d7,tx,b8,e]
 refine b7 rfl rfl (.inl rfl) (d0w (decide (t.length≤65536)) 2) ?_
 simp [num]
theorem b2o (c:UInt8):d8 Tryz.prog 203 [.val (rvb c)] (.ret (.val (.bool (P9 c))) []) []:=by
 refine f8 mixed ok203 rfl (fun _=>rfl) ?_
 unfold ir203
 rw [b6]
 have e1:((97:Int)≤c.toNat)↔97≤c.toNat:=by omega
 have e2:((c.toNat:Int)≤122)↔c.toNat≤122:=by omega
 by_cases h:97≤c.toNat
 · simp [d9,i6,j9,b9,d7,rvb,P9,h,e1,e2]
 · simp [d9,i6,j9,b9,d7,rvb,P9,h,e1,e2]
theorem b8f (c:UInt8):d8 Tryz.prog 331 [.val (rvb c)] (.ret (.val (.bool (P7 c))) []) []:=by
 refine f8 mixed ok331 rfl (fun _=>rfl) ?_
 unfold ir331
 rw [b6]
 have e1:((48:Int)≤c.toNat)↔48≤c.toNat:=by omega
 have e2:((c.toNat:Int)≤57)↔c.toNat≤57:=by omega
 by_cases h:48≤c.toNat
 · simp [d9,i6,j9,b9,d7,rvb,P7,h,e1,e2]
 · simp [d9,i6,j9,b9,d7,rvb,P7,h,e1,e2]
theorem c1w (u:LUrl):d8 Tryz.prog 261 [.val (X5 u)] (.ret (.val (.bool (a0x u.scheme))) []) []:=by
 refine f8 mixed ok261 rfl (fun _=>rfl) ?_
 unfold ir261
 rw [b6]
 have e1:(⟨#[104,116,116,112]⟩:ByteArray)=bs a7o:=rfl
 have e2:(⟨#[104,116,116,112,115]⟩:ByteArray)=bs a99:=rfl
 by_cases h:u.scheme=a7o
 · simp [d9,i6,j9,b9,d7,X5,tx,num,e1,e2,L7,a0x,h]
 · by_cases h':u.scheme=a99
   · simp [d9,i6,j9,b9,d7,X5,tx,num,e1,e2,L7,a0x,h',show ¬ a99=a7o by decide]
   · simp [d9,i6,j9,b9,d7,X5,tx,num,e1,e2,L7,a0x,h,h']
theorem c6n (t:Tx):d8 Tryz.prog 277 [.val (tx t)] (.ret (.val (num (a02 t))) []) []:=by
 refine f8 mixed ok277 rfl (fun _=>rfl) ?_
 unfold ir277
 rw [b6]
 have e1:(⟨#[104,116,116,112]⟩:ByteArray)=bs a7o:=rfl
 by_cases h:t=a7o
 · simp [d9,i6,j9,b9,d7,tx,e1,L7,a02,h,num]
 · simp [d9,i6,j9,b9,d7,tx,e1,L7,a02,h,num]
theorem c4p (t:Tx) (ht:t.length < 1099511627776):d8 Tryz.prog 317 [.val (tx t)] (.ret (.val (.bool (U1 t))) []) []:=by
 refine f8 mixed ok317 rfl (fun _=>rfl) ?_
 unfold ir317
 rw [b6]
 simp [d9,i6,j9,b9,d7,tx,b8]
 refine j8 (X:=Nat) (fun i=>⟨u0 [(0,.val (tx t)),(5,.val (num t.length)),(6,.val (num i))],u5 []⟩) (fun i=>i≤t.length∧U1 (t.take i)=true) (fun i=>t.length - i) 0 (Le.mk _ _ ?_ ?_) ?_ ?_
 · simp [upd,num,tx]
 · simp
 · simp [U1]
 · rintro i ⟨hi,hinv⟩
   simp [num,tx]
   refine f7 (fun h1=>?_) (fun h1=>?_)
   · simp [tx,num,b8,j5,h1]
     have hw:IntKind.i64.wrap (t[i].toNat:Int)=(t[i].toNat:Int):=wrap_i64 (by omega) (by have:=t[i].toNat_lt;omega)
     refine b7 rfl rfl (.inl rfl) (by rw [hw];exact R9 (t[i].toNat:Int) 33 126) ?_
     have e:decide ((33:Int)≤(t[i].toNat:Int)∧(t[i].toNat:Int)≤126)=decide (33≤t[i].toNat∧t[i].toNat≤126):=by
      by_cases h:33≤t[i].toNat∧t[i].toNat≤126
      · rw [decide_eq_true h,decide_eq_true (by omega)]
      · rw [decide_eq_false h,decide_eq_false (by omega)]
     rw [e]
     have hs:U1 (t.take (i+1))=(U1 (t.take i) && decide (33≤t[i].toNat∧t[i].toNat≤126)):=S4 _ _ _ h1
     cases hd:decide (33≤t[i].toNat∧t[i].toNat≤126) with
     | true=>
      simp
      refine LoopNext.mk (i+1) ⟨by omega,?_⟩ (by omega) (Le.mk _ _ ?_ ?_)
      · rw [hs,hinv,hd];rfl
      · simp [num,tx];exact wrap_i64 (by omega) (by omega)
      · simp
     | false=>
      have:U1 t=false:=by
       unfold U1
       rw [List.all_eq_false]
       exact ⟨t[i],List.getElem_mem h1,by rw [hd];simp⟩
      rw [this]
      simp
   · have e:i=t.length:=by omega
     subst e
     rw [List.take_length] at hinv
     simp [hinv]
def b04 (i:Nat) (c:UInt8):Bool:=decide (i=0) || (!P7 c && !decide (c.toNat=45) && !decide (c.toNat=43) && !decide (c.toNat=46))
theorem sch_eq (i:Nat) (c:UInt8):(!P9 c && b04 i c)=!(if i=0 then P9 c else X0 c):=by
 unfold b04 X0
 have e:decide (c.toNat=45∨c.toNat=43∨c.toNat=46)=(decide (c.toNat=45) || decide (c.toNat=43) || decide (c.toNat=46)):=by
  by_cases h1:c.toNat=45<;>by_cases h2:c.toNat=43<;>by_cases h3:c.toNat=46<;>simp [h1,h2,h3]
 rw [e]
 by_cases h:i=0
 · simp [h]
 · simp only [h,decide_false,Bool.false_or,if_false]
   cases P9 c<;>cases P7 c<;>cases decide (c.toNat=45)<;>cases decide (c.toNat=43)<;>cases decide (c.toNat=46)<;>rfl
structure SS (st:St) (t:Tx) (i m:Nat) (c:UInt8):Prop where
 e0:st.env 0=.val (tx t)
 e3:st.env 3=.val (num i)
 e4:st.env 4=.val (rvb c)
 e7:st.env 7=.val (num m)
 e8:st.env 8=.val (num i)
theorem sops18 {Ks:Kx (St→Prop)} {kx:Kx (RV→St→Prop)} {st:St} {t:Tx} {i m:Nat} {c:UInt8} {b:Bool} (h:SS st t i m c) (hb:st.env 17=.val (.bool b)) (hK:∀ st',SS st' t i m c→st'.env 37=.val (.bool (b && b04 i c))→Ks.k st'):EO Tryz.prog ir316_o18 st (Ks:=Ks) (kx:=kx):=by
 unfold ir316_o18
 cases b with
 | false=>
  simp [hb]
  refine hK _ ⟨?_,?_,?_,?_,?_⟩ ?_<;>simp [h.e0,h.e3,h.e4,h.e7,h.e8]
 | true=>
  by_cases h0:i=0
  · subst h0
    simp [hb,h.e3,num]
    refine hK _ ⟨?_,?_,?_,?_,?_⟩ ?_<;>simp [h.e0,h.e3,h.e4,h.e7,h.e8,b04]
  · simp [hb,h.e3,h.e4,num,h0,rvb]
    refine b7 rfl rfl (.inl rfl) (b8f c) ?_
    have e3:((c.toNat:Int)=45)↔c.toNat=45:=by omega
    have e4:((c.toNat:Int)=43)↔c.toNat=43:=by omega
    have e5:((c.toNat:Int)=46)↔c.toNat=46:=by omega
    cases hd:P7 c with
    | true=>
     simp [hb,h.e3,h.e4,rvb,h0]
     refine hK _ ⟨?_,?_,?_,?_,?_⟩ ?_<;>simp [h.e0,h.e3,h.e4,h.e7,h.e8,b04,h0,hd,num,rvb]
    | false=>
     by_cases h1:c.toNat=45
     · simp [hb,h.e3,h.e4,rvb,h0,e3,e4,e5,h1]
       refine hK _ ⟨?_,?_,?_,?_,?_⟩ ?_<;>simp [h.e0,h.e3,h.e4,h.e7,h.e8,b04,h0,hd,h1,num,rvb]
     · by_cases h2:c.toNat=43
       · simp [hb,h.e3,h.e4,rvb,h0,e3,e4,e5,h1,h2]
         refine hK _ ⟨?_,?_,?_,?_,?_⟩ ?_<;>simp [h.e0,h.e3,h.e4,h.e7,h.e8,b04,h0,hd,h1,h2,num,rvb]
       · by_cases h3:c.toNat=46
         · simp [hb,h.e3,h.e4,rvb,h0,e3,e4,e5,h1,h2,h3]
           refine hK _ ⟨?_,?_,?_,?_,?_⟩ ?_<;>simp [h.e0,h.e3,h.e4,h.e7,h.e8,b04,h0,hd,h1,h2,h3,num,rvb]
         · have e3':¬ ((c.toNat:Int)=45):=by omega
           have e4':¬ ((c.toNat:Int)=43):=by omega
           have e5':¬ ((c.toNat:Int)=46):=by omega
           simp [hb,h.e3,h.e4,rvb,h0,e3,e4,e5,h1,h2,h3]
           refine hK _ ⟨?_,?_,?_,?_,?_⟩ ?_<;>simp [h.e0,h.e3,h.e4,h.e7,h.e8,b04,h0,hd,h1,h2,h3,num,rvb,e5']
theorem c4n (t:Tx) (ht:t.length < 1099511627776):d8 Tryz.prog 316 [.val (tx t)] (.ret (.val (.bool (W3 t))) []) []:=by
 refine f8 mixed ok316 rfl (fun _=>rfl) ?_
 unfold ir316
 rw [b6]
 have hmn:(if (13:Int) < (t.length:Int) then 13 else (t.length:Int))=((min t.length 13:Nat):Int):=by split<;>omega
 simp [d9,i6,j9,b9,d7,tx,b8,hmn]
 refine j8 (X:=Nat) (fun i=>⟨u0 [(0,.val (tx t)),(7,.val (num (min t.length 13:Nat))),(8,.val (num i))],u5 []⟩) (fun i=>i≤min t.length 13∧a4w (t.take i)=true) (fun i=>t.length - i) 0 (Le.mk _ _ ?_ ?_) ?_ ?_
 · simp [upd,num,tx]
 · simp
 · simp [a4w]
 · rintro i ⟨hi,hinv⟩
   have hib:((i:Int) < ((min t.length 13:Nat):Int))↔i < min t.length 13:=by omega
   unfold ir316_l9
   by_cases h1:i < min t.length 13
   · have h1t:i < t.length:=by omega
     have h1':i < t.length∧i < 13:=by omega
     simp [num,tx,hib,h1,h1'.1,h1'.2,b8,j5]
     refine b7 rfl rfl (.inl rfl) (b2o t[i]) ?_
     simp
     refine sops18 (t:=t) (i:=i) (m:=min t.length 13) (c:=t[i]) (b:=!P9 t[i]) ⟨?_,?_,?_,?_,?_⟩ ?_ (fun st' q1 q2=>?_)
     · simp [tx]
     · simp [num]
     · simp [rvb]
     · simp [num]
     · simp [num]
     · simp
     · rw [sch_eq] at q2
       simp only [y8,G1,z1,F9,z6,s8,y9,G0,l9,B1,H1,H2,j7,p8,p9,l1,z7,q9,l3,F8,y7,q8,q7,D9,E1,a05,a06,Option.getD_some,Option.getD_none,C6,u6,o8,D6,o7,o0,D8,o2,D7,D5,D4,H6,x3,o5,D2,x1,o4,D1,C4,D3,x2,C9,n9,w9,D0,H8,H7,C5,C7,o3,C8,x4,o6,B4,n0,C3,C2,C1,H3,w7,n6,B9,w5,n5,B8,B2,C0,w6,B6,m8,v8,B7,H5,H4,B3,v7,n8,B5,w8,n7,J6,J5,K9,J7,K3,J9,J8,K8,K2,K4,K5,K6,K7,A1,A0,z8,M5,M6,A4,G2,u7,E5,x7,L3,t6,Q6,M9,M0,O1,O3,O2,Q7,Q8,I8,J0,I9,J1,J2,N8,x9,N7,E6,E7,E8,y0,a09,F5,y6,Q4,Q5,H9,M7,M8,Option.map_some,Option.map_none,E9,y4,x6,o9,E3,E4,I2,I1,O8,O7,J4,F6,F7,J3,O4,O5,I4,p6,I5,p5,N2,F4,F3,l2,O0,O6,I7,N4,N6,N5,x8,A8,B0,A9,k7,N9,R0,Q9,N0,I6,U8,N1,p7,F1,F2,y5,F0,l0,u9,k9,v6,k8,L2,O9,P0,A2,A3,G4,G3,E2,q2]
       have hsucc:=b27 t i h1t
       cases hgood:(if i=0 then P9 t[i] else X0 t[i]) with
       | true=>
        refine f7 (fun h=>by simp at h) (fun _=>?_)
        simp [q1.e8,num]
        refine LoopNext.mk (i+1) ⟨by omega,?_⟩ (by omega) (Le.mk _ _ ?_ ?_)
        · rw [hsucc,hinv,hgood];rfl
        · simp [num,tx,q1.e0,q1.e7];exact wrap_i64 (by omega) (by omega)
        · simp
       | false=>
        refine f7 (fun _=>?_) (fun h=>by simp at h)
        have:W3 t=false:=by
         unfold W3
         rw [b03 t i h1t hgood,Bool.and_false]
        rw [this]
        simp
   · have e:i=min t.length 13:=by omega
     simp [num,tx,hib,h1,b8]
     refine b7 rfl rfl (.inl rfl) (R9 t.length 1 12) ?_
     have:W3 t=decide ((1:Int)≤(t.length:Int)∧(t.length:Int)≤12):=by
      unfold W3
      by_cases hl:t.length≤12
      · have:i=t.length:=by omega
        subst this
        rw [List.take_length] at hinv
        rw [hinv,Bool.and_true]
        by_cases h0:1≤t.length
        · rw [decide_eq_true (by omega),decide_eq_true (by omega)]
        · rw [decide_eq_false (by omega),decide_eq_false (by omega)]
      · rw [decide_eq_false (by omega),decide_eq_false (by omega)];rfl
     rw [this]
     simp
end
section
variable [GH]
theorem a35 (n:Int) (h0:-9223372036854775808≤n) (h1:n≤9223372036854775807):d8 Tryz.prog 139 [.val (num n)] (.ret (.val (tx (a0y n))) []) []:=by
 refine f8 mixed ok139 rfl (fun _=>rfl) ?_
 unfold ir139
 rw [b6]
 simp [d9,i6,j9,b9,d7,num]
 refine b7 rfl rfl (.inl rfl) (d1t n h0 h1) ?_
 simp
end
end Go.Proofs
end
section
namespace Go.Proofs
open Go.PW Go.KP
variable [GF]
structure HS (st:St) (t:Tx) (i:Nat) (c:UInt8):Prop where
 e0:st.env 0=.val (tx t)
 e3:st.env 3=.val (num i)
 e4:st.env 4=.val (rvb c)
 e6:st.env 6=.val (num t.length)
 e7:st.env 7=.val (num i)
section
variable {Ks:Kx (St→Prop)} {kx:Kx (RV→St→Prop)} {st:St} {t:Tx} {i:Nat} {c:UInt8} {b:Bool}
def c8c (t:Tx) (i:Nat):Bool:=decide ((t.getD (i - 1) 0).toNat=46)
theorem c4v (hi:i < t.length) (hl:t.length < 1099511627776) (h:HS st t i c) (hb:st.env 43=.val (.bool b)) (h0:b=false→i≠0) (hK:∀ st',HS st' t i c→st'.env 49=.val (.bool (b || c8c t i))→Ks.k st'):EO Tryz.prog ir318_o44 st (Ks:=Ks) (kx:=kx):=by
 unfold ir318_o44
 cases b with
 | true=>
  simp [hb]
  refine hK _ ⟨?_,?_,?_,?_,?_⟩ ?_<;>simp [h.e0,h.e3,h.e4,h.e6,h.e7]
 | false=>
  have hi0:=h0 rfl
  have hw:IntKind.i64.wrap ((i:Int) - 1)=((i - 1:Nat):Int):=by rw [wrap_i64 (by omega) (by omega)];omega
  have hi1:i - 1 < t.length:=by omega
  have e46:((t[i - 1].toNat:Int)=46)↔t[i - 1].toNat=46:=by omega
  by_cases h1:t[i - 1].toNat=46
  · simp [hb,h.e0,h.e3,h.e4,h.e6,h.e7,tx,num,rvb,b8,j5,hw,hi1,e46,h1]
    refine hK _ ⟨?_,?_,?_,?_,?_⟩ ?_<;>simp [h.e0,h.e3,h.e4,h.e6,h.e7,tx,num,rvb,c8c,List.getElem?_eq_getElem hi1,h1]
  · have h1':((t[i - 1].toNat:Int) == 46)=false:=by simp;omega
    simp [hb,h.e0,h.e3,h.e4,h.e6,h.e7,tx,num,rvb,b8,j5,hw,hi1,e46,h1,h1']
    refine hK _ ⟨?_,?_,?_,?_,?_⟩ ?_<;>simp [h.e0,h.e3,h.e4,h.e6,h.e7,tx,num,rvb,c8c,List.getElem?_eq_getElem hi1,h1,h1']
def c8d (t:Tx) (i:Nat):Bool:=decide ((t.getD (i - 1) 0).toNat=45) || c8c t i
theorem c4w (hi:i < t.length) (hl:t.length < 1099511627776) (h:HS st t i c) (hb:st.env 36=.val (.bool b)) (h0:b=false→i≠0) (hK:∀ st',HS st' t i c→st'.env 49=.val (.bool (b || c8d t i))→Ks.k st'):EO Tryz.prog ir318_o37 st (Ks:=Ks) (kx:=kx):=by
 unfold ir318_o37
 cases b with
 | true=>
  simp [hb]
  refine c4v (b:=true) (t:=t) (i:=i) (c:=c) hi hl ⟨?_,?_,?_,?_,?_⟩ ?_ (by simp) (fun st' q1 q2=>hK st' q1 (by simpa using q2))<;>simp [h.e0,h.e3,h.e4,h.e6,h.e7]
 | false=>
  have hi0:=h0 rfl
  have hw:IntKind.i64.wrap ((i:Int) - 1)=((i - 1:Nat):Int):=by rw [wrap_i64 (by omega) (by omega)];omega
  have hi1:i - 1 < t.length:=by omega
  have e46:((t[i - 1].toNat:Int)=45)↔t[i - 1].toNat=45:=by omega
  by_cases h1:t[i - 1].toNat=45
  · simp [hb,h.e0,h.e3,h.e4,h.e6,h.e7,tx,num,rvb,b8,j5,hw,hi1,e46,h1]
    refine c4v (b:=true) (t:=t) (i:=i) (c:=c) hi hl ⟨?_,?_,?_,?_,?_⟩ ?_ (by simp) (fun st' q1 q2=>hK st' q1 (by rw [q2];simp [c8d,List.getElem?_eq_getElem hi1,h1]))<;>simp [h.e0,h.e3,h.e4,h.e6,h.e7,tx,num,rvb]
  · have h1':((t[i - 1].toNat:Int) == 45)=false:=by simp;omega
    simp [hb,h.e0,h.e3,h.e4,h.e6,h.e7,tx,num,rvb,b8,j5,hw,hi1,e46,h1,h1']
    refine c4v (b:=false) (t:=t) (i:=i) (c:=c) hi hl ⟨?_,?_,?_,?_,?_⟩ ?_ (fun _=>hi0) (fun st' q1 q2=>hK st' q1 (by rw [q2];simp [c8d,List.getElem?_eq_getElem hi1,h1]))<;>simp [h.e0,h.e3,h.e4,h.e6,h.e7,tx,num,rvb]
def c8e (t:Tx) (i:Nat):Bool:=decide (i=t.length - 1) || c8d t i
theorem c4x (hi:i < t.length) (hl:t.length < 1099511627776) (h:HS st t i c) (hb:st.env 29=.val (.bool b)) (h0:b=false→i≠0) (hK:∀ st',HS st' t i c→st'.env 49=.val (.bool (b || c8e t i))→Ks.k st'):EO Tryz.prog ir318_o30 st (Ks:=Ks) (kx:=kx):=by
 unfold ir318_o30
 cases b with
 | true=>
  simp [hb]
  refine c4w (b:=true) (t:=t) (i:=i) (c:=c) hi hl ⟨?_,?_,?_,?_,?_⟩ ?_ (by simp) (fun st' q1 q2=>hK st' q1 (by simpa using q2))<;>simp [h.e0,h.e3,h.e4,h.e6,h.e7]
 | false=>
  have hi0:=h0 rfl
  have hw:IntKind.i64.wrap ((t.length:Int) - 1)=((t.length - 1:Nat):Int):=by rw [wrap_i64 (by omega) (by omega)];omega
  have e:((i:Int) == ((t.length - 1:Nat):Int))=decide (i=t.length - 1):=by
   rw [Bool.eq_iff_iff];simp;omega
  simp only [y8,G1,z1,F9,z6,s8,y9,G0,l9,B1,H1,H2,j7,p8,p9,l1,z7,q9,l3,F8,y7,q8,q7,D9,E1,a05,a06,Option.getD_some,Option.getD_none,C6,u6,o8,D6,o7,o0,D8,o2,D7,D5,D4,H6,x3,o5,D2,x1,o4,D1,C4,D3,x2,C9,n9,w9,D0,H8,H7,C5,C7,o3,C8,x4,o6,B4,n0,C3,C2,C1,H3,w7,n6,B9,w5,n5,B8,B2,C0,w6,B6,m8,v8,B7,H5,H4,B3,v7,n8,B5,w8,n7,J6,J5,K9,J7,K3,J9,J8,K8,K2,K4,K5,K6,K7,A1,A0,z8,M5,M6,A4,G2,u7,E5,x7,L3,t6,Q6,M9,M0,O1,O3,O2,Q7,Q8,I8,J0,I9,J1,J2,N8,x9,N7,E6,E7,E8,y0,a09,F5,y6,Q4,Q5,H9,M7,M8,Option.map_some,Option.map_none,E9,y4,x6,o9,E3,E4,I2,I1,O8,O7,J4,F6,F7,J3,O4,O5,I4,p6,I5,p5,N2,F4,F3,l2,O0,O6,I7,N4,N6,N5,x8,A8,B0,A9,k7,N9,R0,Q9,N0,I6,U8,N1,p7,F1,F2,y5,F0,l0,u9,k9,v6,k8,L2,O9,P0,A2,A3,G4,G3,E2,hb,h.e0,h.e3,h.e4,h.e6,h.e7,tx,num,rvb,b8,hw,e]
  refine f7 (fun _=>?_) (fun h=>absurd rfl h)
  by_cases h1:i=t.length - 1
  · simp [hb,h.e0,h.e3,h.e4,h.e6,h.e7,tx,num,rvb,b8,hw,e,(eq_true h1:(i=t.length - 1)=True)]
    refine c4w (b:=true) (t:=t) (i:=i) (c:=c) hi hl ⟨?_,?_,?_,?_,?_⟩ ?_ (by simp) (fun st' q1 q2=>hK st' q1 (by rw [q2];simp [c8e,(eq_true h1:(i=t.length - 1)=True)]))<;>simp [h.e0,h.e3,h.e4,h.e6,h.e7,tx,num,rvb]
  · simp [hb,h.e0,h.e3,h.e4,h.e6,h.e7,tx,num,rvb,b8,hw,e,h1]
    refine c4w (b:=false) (t:=t) (i:=i) (c:=c) hi hl ⟨?_,?_,?_,?_,?_⟩ ?_ (fun _=>hi0) (fun st' q1 q2=>hK st' q1 (by rw [q2];simp [c8e,h1]))<;>simp [h.e0,h.e3,h.e4,h.e6,h.e7,tx,num,rvb]
def b7n (t:Tx) (i:Nat):Bool:=decide (i=0) || c8e t i
theorem c4y (hi:i < t.length) (hl:t.length < 1099511627776) (h:HS st t i c) (hb:st.env 25=.val (.bool b)) (hK:∀ st',HS st' t i c→st'.env 49=.val (.bool (b || b7n t i))→Ks.k st'):EO Tryz.prog ir318_o26 st (Ks:=Ks) (kx:=kx):=by
 unfold ir318_o26
 cases b with
 | true=>
  simp [hb]
  refine c4x (b:=true) (t:=t) (i:=i) (c:=c) hi hl ⟨?_,?_,?_,?_,?_⟩ ?_ (by simp) (fun st' q1 q2=>hK st' q1 (by simpa using q2))<;>simp [h.e0,h.e3,h.e4,h.e6,h.e7]
 | false=>
  by_cases h1:i=0
  · subst h1
    simp [hb,h.e0,h.e3,h.e4,h.e6,h.e7,tx,num,rvb,b8]
    refine c4x (b:=true) (t:=t) (i:=0) (c:=c) hi hl ⟨?_,?_,?_,?_,?_⟩ ?_ (by simp) (fun st' q1 q2=>hK st' q1 (by rw [q2];simp [b7n]))<;>simp [h.e0,h.e3,h.e4,h.e6,h.e7,tx,num,rvb]
  · simp [hb,h.e0,h.e3,h.e4,h.e6,h.e7,tx,num,rvb,b8,h1]
    refine c4x (b:=false) (t:=t) (i:=i) (c:=c) hi hl ⟨?_,?_,?_,?_,?_⟩ ?_ (fun _=>h1) (fun st' q1 q2=>hK st' q1 (by rw [q2];simp [b7n,h1]))<;>simp [h.e0,h.e3,h.e4,h.e6,h.e7,tx,num,rvb,h1]
end
def H0 (t:Tx) (i:Nat) (c:UInt8):Bool:=(!decide (c.toNat=45) && !decide (c.toNat=46)) || b7n t i
theorem d05 {K:Kx (PExit→St→Prop)} {st:St} {t:Tx} {i:Nat} {c:UInt8} (hi:i < t.length) (hl:t.length < 1099511627776) (h:HS st t i c)
 (hR:H0 t i c=true→∀ st',st'.env 2=.val (.bool false)→K.k .ret st') (hN:H0 t i c=false→∀ st',HS st' t i c→K.k .normal st'):EC Tryz.prog ir318_s19 st (K:=K):=by
 unfold ir318_s19
 have hend:∀ b,b=(!decide (c.toNat=45) && !decide (c.toNat=46))→∀ st':St,HS st' t i c→st'.env 49=.val (.bool (b || b7n t i)) →
  CD (st'.env 49) (A:=⟨EC Tryz.prog (.seq (.reg [⟨some 2,.mov (.k (.val (.bool false))),none⟩]) .ret) st' (K:=K)⟩) (B:=⟨EC Tryz.prog .skip st' (K:=K)⟩):=by
  intro b hb st' q1 q2
  rw [q2]
  have e:(b || b7n t i)=H0 t i c:=by rw [hb];rfl
  rw [e]
  cases hbd:H0 t i c with
  | true=>
   simp
   exact hR hbd _ (by simp)
  | false=>
   simp
   exact hN hbd _ q1
 have e3:((c.toNat:Int)=45)↔c.toNat=45:=by omega
 have e5:((c.toNat:Int)=46)↔c.toNat=46:=by omega
 by_cases h1:c.toNat=45
 · simp [h.e0,h.e3,h.e4,h.e6,h.e7,tx,num,rvb,e3,e5,h1]
   refine c4y (b:=false) (t:=t) (i:=i) (c:=c) hi hl ⟨?_,?_,?_,?_,?_⟩ ?_ (fun st' q1 q2=>hend false (by simp [h1]) st' q1 q2)<;>simp [h.e0,h.e3,h.e4,h.e6,h.e7,tx,num,rvb,h1]
 · by_cases h2:c.toNat=46
   · simp [h.e0,h.e3,h.e4,h.e6,h.e7,tx,num,rvb,e3,e5,h1,h2]
     refine c4y (b:=false) (t:=t) (i:=i) (c:=c) hi hl ⟨?_,?_,?_,?_,?_⟩ ?_ (fun st' q1 q2=>hend false (by simp [h2]) st' q1 q2)<;>simp [h.e0,h.e3,h.e4,h.e6,h.e7,tx,num,rvb,h2]
   · have h2':((c.toNat:Int) == 46)=false:=by simp;omega
     simp [h.e0,h.e3,h.e4,h.e6,h.e7,tx,num,rvb,e3,e5,h1,h2,h2']
     refine c4y (b:=true) (t:=t) (i:=i) (c:=c) hi hl ⟨?_,?_,?_,?_,?_⟩ ?_ (fun st' q1 q2=>hend true (by simp [h1,h2]) st' q1 q2)<;>simp [h.e0,h.e3,h.e4,h.e6,h.e7,tx,num,rvb,h1,h2]
     all_goals omega
def a2l (c:UInt8):Bool:=P9 c || P7 c
def a25 (t:Tx) (i:Nat):Bool:=decide (i=0) || !a2l (t.getD (i - 1) 0)
theorem b5a {c:UInt8} (h:c.toNat=45∨c.toNat=46):a2l c=false:=by
 unfold a2l P9 P7
 rcases h with h | h<;>simp [h]
theorem d02 (t:Tx) (ht:t.length < 1099511627776):d8 Tryz.prog 318 [.val (tx t)] (.ret (.val (.bool (a2i t))) []) []:=by
 refine f8 mixed ok318 rfl (fun _=>rfl) ?_
 unfold ir318
 rw [b6]
 simp [d9,i6,j9,b9,d7,tx,b8]
 refine j8 (X:=Nat) (fun i=>⟨u0 [(0,.val (tx t)),(6,.val (num t.length)),(7,.val (num i))],u5 []⟩) (fun i=>i≤t.length∧a2i t=U7 (a25 t i) (t.drop i)∧(0 < i→a2l (t.getD (i - 1) 0)=true∨((t.getD (i - 1) 0).toNat=45∨(t.getD (i - 1) 0).toNat=46)∧i < t.length)) (fun i=>t.length - i) 0 (Le.mk _ _ ?_ ?_) ?_ ?_
 · simp [upd,num,tx]
 · simp
 · simp [a25,a2i]
 · rintro i ⟨hi,hinv,hprev⟩
   unfold ir318_l8
   simp [num,tx]
   refine f7 (fun h1=>?_) (fun h1=>?_)
   · have hstep:=b5t (a25 t i) t i h1
     have hg1:t.getD (i+1 - 1) 0=t[i]:=by rw [Nat.add_sub_cancel];exact a42 _ _ _ h1
     have hl1:a25 t (i+1)=!a2l t[i]:=by
      unfold a25
      rw [hg1];simp
     have hnext:∀ st':St,st'.env 0=.val (tx t)→st'.env 6=.val (num t.length)→st'.env 7=.val (num ((i:Int)+1))→a2i t=U7 (!a2l t[i]) (t.drop (i+1))→(a2l t[i]=true∨(t[i].toNat=45∨t[i].toNat=46)∧i+1 < t.length) →
      ∃ x',(x'≤t.length∧a2i t=U7 (a25 t x') (t.drop x')∧(0 < x'→a2l (t.getD (x' - 1) 0)=true∨((t.getD (x' - 1) 0).toNat=45∨(t.getD (x' - 1) 0).toNat=46)∧x' < t.length))∧t.length - x' < t.length - i∧Le st' ⟨u0 [(0,.val (tx t)),(6,.val (num t.length)),(7,.val (num x'))],u5 []⟩:=fun st' q1 q2 q3 q4 q5=>by
      refine ⟨i+1,⟨by omega,by rw [hl1];exact q4,fun _=>by rw [hg1];exact q5⟩,by omega,Le.mk _ _ ?_ ?_⟩
      · simp [q1,q2,q3]
      · simp
     simp [tx,num,b8,j5,h1]
     refine b7 rfl rfl (.inl rfl) (b2o t[i]) ?_
     have hplain:a2l t[i]=true→a2i t=U7 (!a2l t[i]) (t.drop (i+1)):=fun hp=>by
      rw [hinv,hstep]
      have:(P9 t[i] || P7 t[i])=true:=hp
      rw [this,hp];rfl
     cases hlow:P9 t[i] with
     | true=>
      have hp:a2l t[i]=true:=by unfold a2l;rw [hlow];rfl
      simp
      refine hnext _ ?_ ?_ ?_ (hplain hp) (.inl hp)
      · simp [tx]
      · simp [num]
      · simp [num];exact wrap_i64 (by omega) (by omega)
     | false=>
      simp
      refine b7 rfl rfl (.inl rfl) (b8f t[i]) ?_
      cases hdig:P7 t[i] with
      | true=>
       have hp:a2l t[i]=true:=by unfold a2l;rw [hdig];simp
       simp
       refine hnext _ ?_ ?_ ?_ (hplain hp) (.inl hp)
       · simp [tx]
       · simp [num]
       · simp [num];exact wrap_i64 (by omega) (by omega)
      | false=>
       have hp:a2l t[i]=false:=by unfold a2l;rw [hlow,hdig];rfl
       have hp':(P9 t[i] || P7 t[i])=false:=hp
       simp
       refine d05 (t:=t) (i:=i) (c:=t[i]) h1 ht ⟨?_,?_,?_,?_,?_⟩ (fun hbd st' q=>?_) (fun hbd st' q=>?_)
       · simp [tx]
       · simp [num]
       · simp [rvb]
       · simp [num]
       · simp [num]
       · have:a2i t=false:=by
          rw [hinv,hstep,hp']
          by_cases hcs:t[i].toNat=45∨t[i].toNat=46
          · have hb26':b7n t i=true:=by
             unfold H0 at hbd
             rcases hcs with h | h<;>simpa [h] using hbd
            have hlast:a25 t i=true∨i=t.length - 1:=by
             unfold b7n c8e c8d c8c at hb26'
             simp only [Bool.or_eq_true,decide_eq_true_eq] at hb26'
             rcases hb26' with h | h | h | h
             · left;unfold a25;rw [decide_eq_true h];rfl
             · right;exact h
             · left;unfold a25;rw [b5a (.inl h)];simp
             · left;unfold a25;rw [b5a (.inr h)];simp
            by_cases hla:a25 t i=true
            · rw [hla];simp
            · have hei:i=t.length - 1:=hlast.resolve_left hla
              have hd:t.drop (i+1)=[]:=List.drop_eq_nil_of_le (by omega)
              rw [hd]
              cases (a25 t i || !decide (t[i].toNat=45∨t[i].toNat=46))<;>rfl
          · rw [decide_eq_false hcs];simp
         rw [this]
         simp [q]
       · have hcs:t[i].toNat=45∨t[i].toNat=46:=by
          unfold H0 at hbd
          by_cases h45:t[i].toNat=45
          · exact .inl h45
          · by_cases h46:t[i].toNat=46
            · exact .inr h46
            · simp [h45,h46] at hbd
         have hb26':b7n t i=false:=by
          unfold H0 at hbd
          rcases hcs with h | h<;>simpa [h] using hbd
         unfold b7n c8e c8d c8c at hb26'
         simp only [Bool.or_eq_false_iff,decide_eq_false_iff_not] at hb26'
         obtain ⟨k0,k1,k2,k3⟩:=hb26'
         have hla:a25 t i=false:=by
          unfold a25
          rcases hprev (by omega) with h | ⟨h | h,_⟩
          · rw [h,decide_eq_false k0];rfl
          · exact absurd h k2
          · exact absurd h k3
         simp [q.e7,num]
         refine hnext _ ?_ ?_ ?_ ?_ (.inr ⟨hcs,by omega⟩)
         · simp [q.e0]
         · simp [q.e6]
         · simp [num];exact wrap_i64 (by omega) (by omega)
         · rw [hinv,hstep,hp',hla,decide_eq_true hcs,hp];rfl
   · have e:i=t.length:=by omega
     subst e
     have e3:(⟨#[]⟩:ByteArray)=bs []:=rfl
     rw [List.drop_length] at hinv
     have hfin:a2i t=!decide (t=[]):=by
      rw [hinv]
      unfold a25
      simp only [U7]
      by_cases h0:t=[]
      · subst h0;rfl
      · have hpos:0 < t.length:=List.length_pos_iff.2 h0
        rcases hprev hpos with h | ⟨_,h⟩
        · rw [h,decide_eq_false (by omega),decide_eq_false h0];rfl
        · omega
     rw [hfin]
     simp [tx,e3,L7]
end Go.Proofs
end
section
namespace Go.Proofs
open Go.PW Go.KP
attribute [local simp] RV.cells RV.one PV.cells PV.solid PV.one G6 i7 M3 L4 RV.ofCells elems PV.killL
variable [GH]
theorem c1m (n:Int) (h0:-9223372036854775808≤n) (h1:n≤9223372036854775807):(a0y n).length≤20:=by
 unfold a0y
 split
 · have:=a5h 18 (-n).toNat (by omega)
   simp;omega
 · have:=a5h 18 n.toNat (by omega)
   omega
structure UT (st:St) (u:LUrl) (pre:Tx):Prop where
 e1:st.env 1=.ptr 1 0
 e3:st.env 3=.val (tx pre)
 m1:st.mem 1=.box (f5 u)
abbrev txt (t:Tx):Kx (PExit→St→Prop):=⟨a2m [.t 2] (.val (tx t))⟩
theorem c1q (u:LUrl) (hs:u.Small) (pre:Tx) (hp:pre.length < 5497558138880) (st:St) (h:UT st u pre) :
 EC Tryz.prog ir262_from7 st (K:=txt (pre++(if u.hasQ then 63 :: u.query else [])++(if u.hasF then 35 :: u.frag else []))):=by
 unfold ir262_from7
 obtain ⟨s1,s2,s3,s4,s5,s6,s7⟩:=hs
 have e5:(⟨#[63]⟩:ByteArray)=bs [63]:=rfl
 have e6:(⟨#[35]⟩:ByteArray)=bs [35]:=rfl
 cases hq:u.hasQ with
 | true=>
  cases hf:u.hasF with
  | true=>
   simp [h.e1,h.e3,h.m1,f5,tx,num,b8,e5,e6,l4,hq,hf]
   omega
  | false=>
   simp [h.e1,h.e3,h.m1,f5,tx,num,b8,e5,e6,l4,hq,hf]
   omega
 | false=>
  cases hf:u.hasF with
  | true=>
   simp [h.e1,h.e3,h.m1,f5,tx,num,b8,e5,e6,l4,hq,hf]
   omega
  | false=>
   simp [h.e1,h.e3,h.m1,f5,tx,num,b8,e5,e6,l4,hq,hf]
def b34 (u:LUrl):Tx:=u.path++(if u.hasQ then 63 :: u.query else [])++(if u.hasF then 35 :: u.frag else [])
theorem b3i (u:LUrl) (hs:u.Small) (pre:Tx) (hp:pre.length < 4398046511104) (st:St) (h:UT st u pre) :
 EC Tryz.prog ir262_from6 st (K:=txt (pre++b34 u)):=by
 unfold ir262_from6
 have hs':=hs
 obtain ⟨s1,s2,s3,s4,s5,s6,s7⟩:=hs
 have e:pre++b34 u=(pre++u.path)++(if u.hasQ then 63 :: u.query else [])++(if u.hasF then 35 :: u.frag else []):=by simp [b34]
 rw [e]
 simp [h.e1,h.e3,h.m1,f5,tx,num,b8,l4]
 refine ⟨by omega,?_⟩
 refine c1q u hs' (pre++u.path) (by simp;omega) _ ⟨?_,?_,?_⟩<;>simp [h.e1,h.m1,f5,tx]
theorem c1r (u:LUrl) (hs:u.Small) (hp0:-9223372036854775808≤u.port) (pre:Tx) (hp:pre.length < 4398046510080) (st:St) (h:UT st u pre) :
 EC Tryz.prog ir262_from5 st (K:=txt (pre++a3n u.port++b34 u)):=by
 unfold ir262_from5
 have e5:(⟨#[58]⟩:ByteArray)=bs [58]:=rfl
 by_cases h0:u.port=0
 · have e:pre++a3n u.port++b34 u=pre++b34 u:=by simp [a3n,h0]
   rw [e]
   simp [h.e1,h.e3,h.m1,f5,tx,num,b8,l4,h0]
   refine b3i u hs pre (by omega) _ ⟨?_,?_,?_⟩<;>simp [h.e1,h.e3,h.m1,f5,tx,num,h0]
 · have e:pre++a3n u.port++b34 u=(pre++58 :: a0y u.port)++b34 u:=by simp [a3n,h0]
   rw [e]
   simp [h.e1,h.e3,h.m1,f5,tx,num,b8,l4,h0]
   refine b7 rfl rfl (.inl rfl) (a35 u.port hp0 hs.2.2.2.2.2.2) ?_
   have hl:=c1m u.port hp0 hs.2.2.2.2.2.2
   simp [tx,num,b8,l4,e5]
   refine ⟨by omega,by omega,?_⟩
   refine b3i u hs (pre++58 :: a0y u.port) (by simp;omega) _ ⟨?_,?_,?_⟩<;>simp [h.e1,h.e3,h.m1,f5,tx,num]
theorem b3j (u:LUrl) (hs:u.Small) (hp0:-9223372036854775808≤u.port) (pre:Tx) (hp:pre.length < 3298534882300) (st:St) (h:UT st u pre) :
 EC Tryz.prog ir262_from4 st (K:=txt (pre++u.host++a3n u.port++b34 u)):=by
 unfold ir262_from4
 have hs':=hs
 obtain ⟨s1,s2,s3,s4,s5,s6,s7⟩:=hs
 simp [h.e1,h.e3,h.m1,f5,tx,num,b8,l4]
 refine ⟨by omega,?_⟩
 refine c1r u hs' hp0 (pre++u.host) (by simp;omega) _ ⟨?_,?_,?_⟩<;>simp [h.e1,h.m1,f5,tx,num]
theorem c1s (u:LUrl) (hs:u.Small) (hp0:-9223372036854775808≤u.port) (st:St) (e1:st.env 1=.ptr 1 0) (m1:st.mem 1=.box (f5 u)) :
 EC Tryz.prog ir262_from2 st (K:=txt (u.scheme++[58,47,47]++(if u.user=[] then [] else u.user++[64])++u.host++a3n u.port++b34 u)):=by
 unfold ir262_from2
 have hs':=hs
 obtain ⟨s1,s2,s3,s4,s5,s6,s7⟩:=hs
 have q1:(⟨#[58,47,47]⟩:ByteArray)=bs [58,47,47]:=rfl
 have q2:(⟨#[]⟩:ByteArray)=bs []:=rfl
 have q3:(⟨#[64]⟩:ByteArray)=bs [64]:=rfl
 by_cases hu:u.user=[]
 · rw [if_pos hu,List.append_nil]
   simp [e1,m1,f5,tx,num,b8,l4,q1,q2,q3,L7,hu]
   refine ⟨by omega,?_⟩
   refine b3j u hs' hp0 (u.scheme++[58,47,47]) (by simp;omega) _ ⟨?_,?_,?_⟩<;>simp [e1,m1,f5,tx,num,hu]
 · rw [if_neg hu]
   simp [e1,m1,f5,tx,num,b8,l4,q1,q2,q3,L7,hu]
   refine ⟨by omega,by omega,by omega,?_⟩
   refine b3j u hs' hp0 (u.scheme++[58,47,47]++(u.user++[64])) (by simp;omega) _ ⟨?_,?_,?_⟩<;>simp [e1,m1,f5,tx,num]
theorem d0x (u:LUrl) (hs:u.Small) (hp0:-9223372036854775808≤u.port):d8 Tryz.prog 262 [.val (X5 u)] (.ret (.val (tx (a3m u))) []) []:=by
 refine f8 mixed ok262 rfl (fun _=>rfl) ?_
 unfold ir262
 rw [b6]
 simp [d9,i6,j9,b9,d7,X5,tx,num,i7]
 refine b7 rfl rfl (.inl rfl) (c1w u) ?_
 have q1:(⟨#[58]⟩:ByteArray)=bs [58]:=rfl
 cases hw:a0x u.scheme with
 | true=>
  simp
  have e:a3m u=u.scheme++[58,47,47]++(if u.user=[] then [] else u.user++[64])++u.host++a3n u.port++b34 u:=by simp [a3m,hw,b34]
  rw [e]
  refine c1s u hs hp0 _ ?_ ?_<;>simp [f5,tx,num]
 | false=>
  obtain ⟨s1,s2,s3,s4,s5,s6,s7⟩:=hs
  have e:a3m u=u.scheme++[58]++u.path:=by simp [a3m,hw]
  rw [e]
  simp [tx,b8,l4,q1]
  omega
end Go.Proofs
end
section
namespace Go.KP
def a7b (t:Tx):Int×Bool:=Lib.NumEnd.casesOn (motive:=fun _=>Int×Bool) (Lib.atoiAll t) (fun v=>(v,decide (a0j t≤18) && decide (a0y v=t))) (0,false) (Lib.atoiSat t,false)
theorem c3v:∀ (u:Tx) (acc:Nat),u.all P7=true→acc*10 ^ u.length+V9 u < 1000000000000000000→Lib.parseUint10 acc u=.ok (acc*10 ^ u.length+V9 u):=by
 have hlv:∀ (u:Tx) (a:Nat),u.foldl (fun n c=>n*10+(c.toNat - 48)) a=a*10 ^ u.length+V9 u:=by
  intro u
  induction u with
  | nil=>intro a;simp [V9]
  | cons c r ih=>
   intro a
   simp only [List.foldl_cons,V9,List.length_cons]
   rw [ih,ih (0*10+(c.toNat - 48)),Nat.pow_succ]
   have:(a*10+(c.toNat - 48))*10 ^ r.length=a*(10 ^ r.length*10)+(c.toNat - 48)*10 ^ r.length:=by
    rw [Nat.add_mul];congr 1;rw [Nat.mul_assoc,Nat.mul_comm 10]
   rw [this];simp [Nat.add_assoc]
 intro u
 induction u with
 | nil=>intro acc _ _;simp [Lib.parseUint10,V9]
 | cons c r ih=>
  intro acc ha hlt
  simp only [List.all_cons,Bool.and_eq_true] at ha
  have hc:=ha.1
  simp only [P7,decide_eq_true_eq] at hc
  have e:acc*10 ^ (c :: r).length+V9 (c :: r)=(acc*10+(c.toNat - 48))*10 ^ r.length+V9 r:=by
   rw [← hlv (c :: r) acc,List.foldl_cons,hlv r]
  rw [e] at hlt ⊢
  have hp:1≤10 ^ r.length:=Nat.one_le_pow _ _ (by decide)
  have hb:acc*10+(c.toNat - 48) < 1000000000000000000:=by
   have:=Nat.le_mul_of_pos_right (acc*10+(c.toNat - 48)) hp
   omega
  rw [Lib.parseUint10.eq_2,if_pos hc,if_neg (by omega),if_neg (by omega)]
  exact ih _ ha.2 hlt
theorem c6m (t:Tx):(if (a7b t).2 then some (a7b t).1 else none)=X3 t:=by
 cases hl:X3 t with
 | some n=>
  obtain ⟨h1,h2,u,h3,h4,h5,h6⟩:=a69 hl
  have hv:V9 u < 1000000000000000000:=by
   have:=b4c u h4
   have h7:V9 u < 10 ^ 18:=Nat.lt_of_lt_of_le this (Nat.pow_le_pow_right (by omega) h5)
   have h8:(10:Nat) ^ 18=1000000000000000000:=by decide
   omega
  have hpm:Lib.parseMag u=.ok (V9 u):=by
   unfold Lib.parseMag
   rw [if_neg h3,c3v u 0 h4 (by simpa using hv)]
   simp
  have key:Lib.atoiAll t=.ok n:=by
   unfold Lib.atoiAll
   rcases h6 with ⟨rfl,hn⟩ | ⟨rfl,hn⟩
   · have e45:(45:UInt8).toNat=45:=rfl
     simp only [e45,or_true,if_true,hpm,not_true,false_and,if_false,true_and]
     rw [if_neg (by omega),hn]
   · cases hu:t with
     | nil=>exact absurd hu h3
     | cons c r=>
      have hd:P7 c=true:=by rw [hu,List.all_cons,Bool.and_eq_true] at h4;exact h4.1
      simp only [P7,decide_eq_true_eq] at hd
      have e1:¬ c.toNat=43:=by omega
      have e2:¬ c.toNat=45:=by omega
      rw [hu] at hpm hn hv
      simp only [e1,e2,or_self,if_false,not_false_eq_true,true_and,false_and]
      rw [hpm]
      dsimp only
      rw [if_neg (by omega),hn]
  unfold a7b
  rw [key]
  simp only [h1,decide_true,Bool.and_true]
  rw [decide_eq_true h2];rfl
 | none=>
  rcases hv:Lib.atoiAll t with v | _ | _<;>unfold a7b<;>rw [hv]
  · dsimp only
    by_cases h:(decide (a0j t≤18) && decide (a0y v=t))=true
    · simp only [Bool.and_eq_true,decide_eq_true_eq] at h
      have:=b9i v (by rw [h.2];exact h.1)
      rw [h.2,hl] at this
      cases this
    · rw [if_neg h]
  · rfl
  · rfl
theorem b7w {t:Tx} {v:Int} (h:Lib.atoiAll t=.ok v):-9223372036854775808≤v∧v≤9223372036854775807:=by
 unfold Lib.atoiAll at h
 split at h
 · cases h
 · dsimp only at h
   split at h
   · cases h
   · cases h
   · split at h
     · cases h
     · split at h
       · cases h
       · rename_i u _ h1 h2
         injection h with h
         split at h
         · rename_i h3
           have:¬ 9223372036854775808 < u:=fun h4=>h2 ⟨h3,h4⟩
           omega
         · rename_i h3
           have:¬ 9223372036854775808≤u:=fun h4=>h1 ⟨h3,h4⟩
           omega
theorem inum_le {t:Tx} (h:(a7b t).2=true):X3 t=some (a7b t).1:=by
 have:=c6m t
 rw [h] at this
 exact this.symm
theorem c7w {t:Tx} (h:(a7b t).2=false):X3 t=none:=by
 have:=c6m t
 rw [h] at this
 exact this.symm
end Go.KP
namespace Go.PW
open Go.RowKit
variable [GF]
theorem c8y {P:Program} {f:Nat} {rs:List RV} {vals:List Value} {p:PV} (ha:svs rs=some vals)
 (h:∀ L w,Globs L w→b7x L w→Calls P f vals.toArray w fun e w'=>(∃ v,e=.returned v∧∀ γ L,RepP γ L w' p v)∧Below w.heap.size w w'):d8 P f (rs.map .val) (.ret p []) []:=by
 intro L w vs ms hL hgl hgb hargs hnd
 obtain ⟨rfl,rfl⟩:=c0c ha hargs
 refine (h L w hgl hgb).mono fun e w' ⟨⟨v,he,hp⟩,hb⟩=>?_
 exact ⟨Outside.of_below hb,v,fun _=>undef,he,hp _ _,b3c,rfl,fun i b cells h1 h2=>by simp at h1⟩
end Go.PW
namespace Go.Proofs
open Go.PW Go.KP Go.RowKit
variable [GH]
def a2e (t:Tx):PV:=Lib.NumEnd.casesOn (motive:=fun _=>PV) (Lib.atoiAll t) (fun v=>.tup [.val (num v),.val .nilif]) (.tup [.val (num 0),.val (.ifc 350 .opq)]) (.tup [.val (num (Lib.atoiSat t)),.val (.ifc 350 .opq)])
theorem c26 (w:World) (t:ByteArray):Below w.heap.size w (Lib.bytesWorld w 5 t):=Lib.bytesWorld_below _ _ _
theorem b8z {γ:Nat→Value} {L:Nat→Prop} {w:World} {p q:PV} {v u:Value} (h1:RepP γ L w p v) (h2:RepP γ L w q u):RepP γ L w (.tup [p,q]) (.tuple #[v,u]):=
 .tup _ _ rfl fun i hi=>by
  match i,hi with
  | 0,_=>exact h1
  | 1,_=>exact h2
theorem c_Atoi (t:Tx) (ht:t.length < 4294967281):d8 Tryz.prog 322 [.val (tx t)] (.ret (a2e t) []) []:=by
 refine c8y (rs:=[tx t]) (vals:=[.string (bs t)]) rfl fun L w hgl hgb=>?_
 have hsz:(bs t).size=t.length:=b8 t
 rcases h:Lib.atoiAll t with v | _ | _
 · refine (Tryz.strconv_Atoi_ok (bs t) (by rw [hsz];omega) v (by rw [Z8];exact h) w).mono fun e w' ⟨he,hw⟩=>?_
   refine ⟨⟨_,he,fun γ L=>?_⟩,?_⟩
   · unfold a2e
     rw [h]
     exact b8z (.val _ _ (.int _ _)) (.val _ _ .nilif)
   · rcases hw with hw | ⟨s,hw⟩
     · exact a5r hw
     · rw [hw];exact c26 _ _
 · refine (Calls.mono (Any.strconv_Atoi_syntax Tryz.laysC172 (bs t) (by rw [hsz];omega) (by rw [Z8];exact h) _ w (hgl _ GH.hs).2 (.inr ⟨_,_,rfl⟩)) fun e w' ⟨N,he,_,_,hw⟩=>?_)
   refine ⟨⟨_,he,fun γ L=>?_⟩,hw⟩
   unfold a2e
   rw [h]
   exact b8z (.val _ _ (.int _ _)) (.val _ _ (.ifc _ _ _ (.opq _ rfl)))
 · refine (Tryz.strconv_Atoi_range (bs t) (by rw [hsz];omega) (by rw [Z8];exact h) _ w (hgl _ GH.hr).2 (.inr ⟨_,_,rfl⟩)).mono fun e w' ⟨N,he,_,_,hw⟩=>?_
   refine ⟨⟨_,he,fun γ L=>?_⟩,hw⟩
   unfold a2e
   rw [h]
   rw [Z8]
   exact b8z (.val _ _ (.int _ _)) (.val _ _ (.ifc _ _ _ (.opq _ rfl)))
def b4d (t:Tx):PV:=.tup [.val (num (a7b t).1),.val (.bool (a7b t).2)]
theorem b1d (t:Tx) (ht:t.length < 4294967281) (st:St) (h0:st.env 0=.val (tx t)) (h6:st.env 6=.val (num (a0j t)))
 (h45:(∃ v,Lib.atoiAll t=.ok v∧st.env 4=.val (num v)∧st.env 5=.val .nilif)∨(∃ n,(a7b t)=(n,false)∧st.env 4=.val (num n)∧st.env 5=.val (.ifc 350 .opq))) :
 EC Tryz.prog ir276_from4 st (K:=⟨a2m [.t 2,.t 3] (b4d t)⟩):=by
 unfold ir276_from4 b4d
 rcases h45 with ⟨v,hv,h4,h5⟩ | ⟨n,hn,h4,h5⟩
 · have hr:=b7w hv
   have e:a7b t=(v,decide (a0j t≤18) && decide (a0y v=t)):=by unfold a7b;rw [hv]
   rw [e]
   by_cases hd:a0j t≤18
   · have hd':(a0j t:Int)≤18:=by omega
     simp [h0,h4,h5,h6,tx,num,hd']
     refine b7 rfl rfl (.inl rfl) (d1t v hr.1 hr.2) ?_
     simp [h0,h4,h5,h6,tx,num,L7,hd]
   · have hd':¬ (a0j t:Int)≤18:=by omega
     simp [h0,h4,h5,h6,tx,num,hd',hd]
 · rw [hn]
   simp [h0,h4,h5,h6,tx,num]
theorem d00 (t:Tx) (ht:t.length < 4294967281):d8 Tryz.prog 276 [.val (tx t)] (.ret (b4d t) []) []:=by
 refine f8 mixed ok276 rfl (fun _=>rfl) ?_
 unfold ir276
 rw [b6]
 have e3:(⟨#[]⟩:ByteArray)=bs []:=rfl
 have hA:=c_Atoi t ht
 simp [d9,i6,j9,b9,d7,tx]
 have hmid:∀ (a b:RV),a2e t=.tup [.val a,.val b]→((∃ v,Lib.atoiAll t=.ok v∧a=num v∧b=.nilif)∨(∃ n,(a7b t)=(n,false)∧a=num n∧b=.ifc 350 .opq)):=by
  intro a b h
  rcases hv:Lib.atoiAll t with v | _ | _
  · have e:a2e t=.tup [.val (num v),.val .nilif]:=by unfold a2e;rw [hv]
    rw [e] at h
    simp only [PV.tup.injEq,List.cons.injEq,PV.val.injEq] at h
    exact .inl ⟨v,rfl,h.1.symm,h.2.1.symm⟩
  · have e:a2e t=.tup [.val (num 0),.val (.ifc 350 .opq)]:=by unfold a2e;rw [hv]
    have e2:a7b t=(0,false):=by unfold a7b;rw [hv]
    rw [e] at h
    simp only [PV.tup.injEq,List.cons.injEq,PV.val.injEq] at h
    exact .inr ⟨0,e2,h.1.symm,h.2.1.symm⟩
  · have e:a2e t=.tup [.val (num (Lib.atoiSat t)),.val (.ifc 350 .opq)]:=by unfold a2e;rw [hv]
    have e2:a7b t=(Lib.atoiSat t,false):=by unfold a7b;rw [hv]
    rw [e] at h
    simp only [PV.tup.injEq,List.cons.injEq,PV.val.injEq] at h
    exact .inr ⟨Lib.atoiSat t,e2,h.1.symm,h.2.1.symm⟩
 obtain ⟨a,b,hab⟩:∃ a b,a2e t=.tup [.val a,.val b]:=by
  unfold a2e
  rcases Lib.atoiAll t with v | _ | _<;>exact ⟨_,_,rfl⟩
 have hm:=hmid a b hab
 rw [hab] at hA
 refine Z0 rfl rfl (.inl rfl) hA ?_
 cases t with
 | nil=>
  simp [tx,b8,e3,L7]
  refine b1d [] ht _ ?_ ?_ ?_
  · simp [tx]
  · simp [num,a0j]
  · rcases hm with ⟨v,h1,rfl,rfl⟩ | ⟨n,h1,rfl,rfl⟩
    · exact .inl ⟨v,h1,by simp,by simp⟩
    · exact .inr ⟨n,h1,by simp,by simp⟩
 | cons c r=>
  have hr:r.length < 4294967280:=by simp at ht;omega
  have e0:(0:Int) < ((r.length:Int)+1):=by omega
  have fin:∀ st':St,st'.env 0=.val (tx (c :: r))→st'.env 6=.val (num (a0j (c :: r)))→st'.env 4=.val a→st'.env 5=.val b→EC Tryz.prog ir276_from4 st' (K:=⟨a2m [.t 2,.t 3] (b4d (c :: r))⟩):=fun st' q0 q6 q4 q5=>by
   refine b1d (c :: r) ht st' q0 q6 ?_
   rcases hm with ⟨v,h1,rfl,rfl⟩ | ⟨n,h1,rfl,rfl⟩
   · exact .inl ⟨v,h1,q4,q5⟩
   · exact .inr ⟨n,h1,q4,q5⟩
  by_cases hc:c=45
  · have e1:((c.toNat:Int)=45):=by rw [hc];rfl
    have hw:IntKind.i64.wrap ((r.length:Int)+1 - 1)=(r.length:Int):=by rw [wrap_i64 (by omega) (by omega)];omega
    simp [tx,b8,e3,L7,j5,e0,e1,hw]
    refine fin _ ?_ ?_ ?_ ?_
    · simp [tx]
    · simp [num,a0j,hc];exact wrap_i64 (by omega) (by omega)
    · simp
    · simp
  · have e1:¬ ((c.toNat:Int)=45):=fun h=>hc (UInt8.toNat_inj.1 (by simp;omega))
    simp [tx,b8,e3,L7,j5,e0,e1]
    refine fin _ ?_ ?_ ?_ ?_
    · simp [tx]
    · simp [num,a0j,hc]
    · simp
    · simp
end Go.Proofs
end
section
namespace Go.Proofs
open Go.PW Go.KP Go.RowKit
def a2g (t:Tx) (k j:Nat):UInt8:=if j < k then c1h (t.getD j 0) else t.getD j 0
def b0z (t:Tx) (B k:Nat) (wr:World):Prop:=
 (∀ j,j < t.length→wr.cell? ⟨B,j,none⟩=some (.int .u8 ((a2g t k j).toNat:Int)))∧(∀ j,j < t.length→wr.frozen? ⟨B,j,none⟩=false)
theorem b9f (t:Tx) (w:World) (cap:Nat):b0z t w.heap.size 0 (w.alloc (.cells (bytesRow (bs t) cap) 5 ((bytesRow (bs t) cap).size,(bytesRow (bs t) cap).size+1))):=by
 have hsz:(bs t).data.size=t.length:=by simp [bs]
 refine ⟨fun j hj=>?_,fun j hj=>?_⟩
 · rw [World.cell?_alloc_mark,bytesRow_at (bs t) cap j (by omega)]
   simp [a2g,bs,hj]
 · rw [World.frozen?_alloc_mark]
   have:t.length≤(bytesRow (bs t) cap).size:=by simp [bytesRow,bs]
   have h2:¬ (bytesRow (bs t) cap).size≤j:=by omega
   simp [h2]
theorem c39 {t:Tx} {B k:Nat} {wr:World} (hk:k < t.length) (h:b0z t B k wr) (h1:(65:Int)≤((a2g t k k).toNat:Int)) (h2:((a2g t k k).toNat:Int)≤90) :
 b0z t B (k+1) (wr.setCell ⟨B,k,none⟩ (.int .u8 (((a2g t k k).toNat:Int)+32))):=by
 have e0:a2g t k k=t.getD k 0:=by simp [a2g]
 rw [e0] at h1 h2 ⊢
 refine ⟨fun j hj=>?_,fun j hj=>by rw [World.frozen?_setCell];exact h.2 j hj⟩
 by_cases e:j=k
 · subst e
   rw [World.cell?_setCell_same _ _ _ (h.1 j hj)]
   have:a2g t (j+1) j=t.getD j 0+32:=by
    simp only [a2g,Nat.lt_succ_self,if_true,c1h]
    rw [if_pos (by omega)]
   rw [this]
   congr 2
   rw [UInt8.toNat_add]
   have e32:(32:UInt8).toNat=32:=rfl
   rw [e32]
   omega
 · rw [World.cell?_setCell_other _ _ _ _ (by simp<;>omega),h.1 j hj]
   have:a2g t (k+1) j=a2g t k j:=by
    unfold a2g
    by_cases hjk:j < k
    · rw [if_pos hjk,if_pos (by omega)]
    · rw [if_neg hjk,if_neg (by omega)]
   rw [this]
theorem b3g {t:Tx} {B k:Nat} {wr:World} (h:b0z t B k wr) (h1:¬ ((65:Int)≤((a2g t k k).toNat:Int)∧((a2g t k k).toNat:Int)≤90)):b0z t B (k+1) wr:=by
 have e0:a2g t k k=t.getD k 0:=by simp [a2g]
 rw [e0] at h1
 refine ⟨fun j hj=>?_,h.2⟩
 rw [h.1 j hj]
 have:a2g t (k+1) j=a2g t k j:=by
  unfold a2g
  by_cases hjk:j < k
  · rw [if_pos hjk,if_pos (by omega)]
  · by_cases e:j=k
    · subst e
      rw [if_pos (by omega),if_neg (by omega)]
      unfold c1h
      rw [if_neg (by omega)]
    · rw [if_neg hjk,if_neg (by omega)]
 rw [this]
theorem c7o {t:Tx} {j:Nat} (hj:j < (R8 t).length):a2g t t.length j=(R8 t)[j]:=by
 have hj':j < t.length:=by simpa [R8] using hj
 unfold a2g
 rw [if_pos hj',a42 _ _ _ hj']
 simp [R8]
theorem c1g {t:Tx} {B:Nat} {wr:World} (hR:b0z t B t.length wr) (cap:Nat):(convert 195 9 (.slice (some ⟨B,0,none⟩) t.length cap)).run Tryz.prog wr=.ok (.string (bs (R8 t))) wr:=by
 have hll:(R8 t).length=t.length:=by simp [R8]
 have hback:=run_convert_bytes_back (P:=Tryz.prog) wr 195 9 5 ⟨B,0,none⟩ cap (R8 t) Tryz.underlying195 Tryz.underlying5 Tryz.underlying9 (fun j hj=>by
  have h1:=hR.1 j (by omega)
  rw [c7o hj] at h1
  have e:(Addr.add ⟨B,0,none⟩ j)=⟨B,j,none⟩:=by simp [Addr.add];omega
  rw [e]
  exact h1)
 rw [hll] at hback
 exact hback
set_option maxRecDepth 1000000 in
theorem c38 (t:Tx) (w:World) (hl:t.length < 4294967281) :
 Calls Tryz.prog 272 #[.string (bs t)] w fun e w'=>e=.returned (.string (bs (R8 t)))∧Below w.heap.size w w':=by
 have hsz:(bs t).size=t.length:=b8 t
 have hconv:=run_bytes_of_string (P:=Tryz.prog) w 9 195 5 (bs t) Tryz.underlying9 Tryz.underlying195 Tryz.underlying5
 have hll:(R8 t).length=t.length:=by simp [R8]
 go_enter Tryz.func272,Tryz.ntmps272
 go_wp2
 go_loopw [10] (fun i wr=>∃ k:Nat,k≤t.length∧i=.int .i64 k∧b0z t w.heap.size k wr∧Below w.heap.size w wr)
  (fun i _=>t.length - (intOf i).toNat)
 case atStart=>
  refine ⟨0,Nat.zero_le _,rfl,?_,?_⟩
  · have:=b9f t w (grownCap w t.length 0 5)
    exact ⟨this.1,this.2⟩
  · exact ((Below.refl _ w).alloc (Nat.le_refl _) _).drew
 case round=>
  obtain ⟨k,hk,rfl,hR,hnx⟩:=hrel
  have hck:k < t.length→wr.cell? ⟨w.heap.size,k,none⟩=some (.int .u8 ((a2g t k k).toNat:Int)):=fun h=>hR.1 k h
  have hfk:k < t.length→wr.frozen? ⟨w.heap.size,k,none⟩=false:=fun h=>hR.2 k h
  go_wp2
  · refine ⟨⟨k+1,by omega,by first | rfl | simp,c39 (by assumption) hR (by assumption) (by assumption),hnx.setCell (Nat.le_refl _) _⟩,?_⟩
    simp [intOf];omega
  · refine ⟨⟨k+1,by omega,by first | rfl | simp,b3g hR (by omega),hnx⟩,?_⟩
    simp [intOf];omega
  · refine ⟨⟨k+1,by omega,by first | rfl | simp,b3g hR (by omega),hnx⟩,?_⟩
    simp [intOf];omega
  · have hkn:k=t.length:=by omega
    subst hkn
    have hback':=c1g (wr:=wr) hR (grownCap w t.length 0 5)
    rw [hback']
    go_wp2
    go_ret
    exact ⟨rfl,hnx⟩
section
variable [GF]
theorem c6o (t:Tx) (hl:t.length < 4294967281):d8 Tryz.prog 272 [.val (tx t)] (.ret (.val (tx (R8 t))) []) []:=
 a27 (rs:=[tx t]) (vals:=[.string (bs t)]) (v:=.string (bs (R8 t))) rfl rfl fun L w hgl hgb=>c38 t w hl
end
end Go.Proofs
end
section
namespace Go.Proofs
open Go.PW Go.KP
variable [GH]
theorem c3z {K:Kx (PExit→St→Prop)} (t:Tx) (i n:Nat) (c:UInt8) (b:Bool) (st:St) (e0:st.env 0=.val (tx t)) (e3:st.env 3=.val (num i)) (e4:st.env 4=.val (rvb c)) (e5:st.env 5=.val (.bool b)) (e11:st.env 11=.val (num n)) (e12:st.env 12=.val (num i))
 (hgood:(b || (!decide (i=0) && P7 c))=true→∀ st':St,st'.env 0=.val (tx t)→st'.env 11=.val (num n)→st'.env 12=.val (num i)→K.k .normal st')
 (H0:(b || (!decide (i=0) && P7 c))=false→∀ st':St,st'.env 2=.val (.bool false)→K.k .ret st') :
 EC Tryz.prog ir185_s36 st (K:=K):=by
 unfold ir185_s36
 cases b with
 | true=>
  simp [e5]
  exact hgood (by simp) _ (by simp [e0]) (by simp [e11]) (by simp [e12])
 | false=>
  by_cases h0:i=0
  · subst h0
    simp [e5,e3,e4,num]
    exact H0 (by simp) _ (by simp)
  · have f1:((c.toNat:Int) < 48)↔c.toNat < 48:=by omega
    have f2:((57:Int) < c.toNat)↔57 < c.toNat:=by omega
    by_cases h1:c.toNat < 48
    · simp [e5,e3,e4,num,rvb,h0,f1,h1]
      exact H0 (by simp [P7];omega) _ (by simp)
    · by_cases h2:57 < c.toNat
      · simp [e5,e3,e4,num,rvb,h0,f1,h1,f2,h2]
        exact H0 (by simp [P7];omega) _ (by simp)
      · simp [e5,e3,e4,num,rvb,h0,f1,h1,f2,h2]
        exact hgood (by simp [P7,h0];omega) _ (by simp [e0]) (by simp [e11,num]) (by simp [e12,num])
theorem b5z (t:Tx) (ht:t.length < 1099511627776):d8 Tryz.prog 185 [.val (tx t)] (.ret (.val (.bool (a1h t))) []) []:=by
 refine f8 mixed ok185 rfl (fun _=>rfl) ?_
 unfold ir185
 rw [b6]
 simp [d9,i6,j9,b9,d7,tx,b8]
 refine b7 rfl rfl (.inl rfl) (R9 t.length 1 12) ?_
 by_cases hlen:1≤t.length∧t.length≤12
 rotate_left
 · rw [show decide ((1:Int)≤t.length∧(t.length:Int)≤12)=false from decide_eq_false (by omega)]
   have:a1h t=false:=by unfold a1h;rw [decide_eq_false hlen];rfl
   simp [this]
 rw [show decide ((1:Int)≤t.length∧(t.length:Int)≤12)=true from decide_eq_true (by omega)]
 have hw:a1h t=Y1 a10 a3w t:=by unfold a1h;rw [decide_eq_true hlen];rfl
 simp [b8]
 refine j8 (X:=Nat) (fun i=>⟨u0 [(0,.val (tx t)),(11,.val (num t.length)),(12,.val (num i))],u5 []⟩) (fun i=>i≤t.length∧Y1 a10 a3w (t.take i)=true) (fun i=>t.length - i) 0 (Le.mk _ _ ?_ ?_) ?_ ?_
 · simp [upd,tx,num]
 · simp
 · simp [Y1]
 · rintro i ⟨hi,hall⟩
   simp [num]
   refine f7 (fun h3=>?_) (fun h3=>?_)
   · have hstep:=a3p (p:=a10) (q:=a3w) (fun _ h=>a5z h) t i h3
     rw [hall,Bool.true_and] at hstep
     have H0:=a2s (p:=a10) (q:=a3w) t i h3
     have e1:((97:Int)≤t[i].toNat)↔97≤t[i].toNat:=by omega
     have e2:((t[i].toNat:Int)≤122)↔t[i].toNat≤122:=by omega
     have e3:((65:Int)≤t[i].toNat)↔65≤t[i].toNat:=by omega
     have e4:((t[i].toNat:Int)≤90)↔t[i].toNat≤90:=by omega
     have e5:((t[i].toNat:Int)=95)↔t[i].toNat=95:=by omega
     have key:∀ (b:Bool) (st':St),b=a10 t[i]→st'.env 0=.val (tx t)→st'.env 3=.val (num i)→st'.env 4=.val (rvb t[i])→st'.env 5=.val (.bool b)→st'.env 11=.val (num t.length)→st'.env 12=.val (num i)→True:=fun _ _ _ _ _ _ _ _ _=>trivial
     have hg:(a10 t[i] || (!decide (i=0) && P7 t[i]))=true→(if i=0 then a10 t[i] else a3w t[i])=true:=fun h=>by
      by_cases h0:i=0
      · subst h0;simpa using h
      · simpa [h0,a3w] using h
     have hb:(a10 t[i] || (!decide (i=0) && P7 t[i]))=false→(if i=0 then a10 t[i] else a3w t[i])=false:=fun h=>by
      by_cases h0:i=0
      · subst h0;simpa using h
      · simpa [h0,a3w] using h
     by_cases h1:97≤t[i].toNat<;>by_cases h2:t[i].toNat≤122<;>by_cases h4:65≤t[i].toNat<;>by_cases h5:t[i].toNat≤90<;>by_cases h6:t[i].toNat=95<;>first
      | (exfalso;omega)
      | (simp [num,tx,b8,j5,h3,e1,e2,e3,e4,e5,h1,h2,h4,h5,h6]
         refine c3z t i t.length t[i] (a10 t[i]) _ (by simp [tx]) (by simp [num]) (by simp [rvb,h6]) (by simp [a10,P9,isUp,e1,e2,e3,e4,e5,h1,h2,h4,h5,h6]) (by simp [num]) (by simp [num]) (fun hh st' q0 q11 q12=>?_) (fun hh st' q2=>?_)
         · simp [q12,num]
           refine LoopNext.mk (i+1) ⟨by omega,by rw [hstep];exact hg hh⟩ (by omega) (Le.mk _ _ ?_ ?_)
           · simp [q0,q11,num];exact wrap_i64 (by omega) (by omega)
           · simp
         · have:a1h t=false:=by rw [hw];exact H0 (hb hh)
           simp [q2,this])
   · have e:i=t.length:=by omega
     subst e
     rw [List.take_length] at hall
     simp [hw,hall]
end Go.Proofs
end
