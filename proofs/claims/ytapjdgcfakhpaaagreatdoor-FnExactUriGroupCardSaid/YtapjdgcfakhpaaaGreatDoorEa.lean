/- Ea: merged out of KLb, KIa, KIb, KIc, KId, KIe, KIt. -/
import Derived.Test.YtapjdgcfakhpaaaGreatDoorAc
import Derived.Test.YtapjdgcfakhpaaaGreatDoorShelf
import Derived.Test.YtapjdgcfakhpaaaGreatDoorCa
import Derived.Test.YtapjdgcfakhpaaaGreatDoorBa
import Derived.Test.YtapjdgcfakhpaaaGreatDoorProg
import Derived.WalkKit
import Derived.Laws.IdiomStrings
set_option linter.unusedSectionVars false
set_option linter.unusedSimpArgs false
set_option linter.unusedVariables false
set_option maxRecDepth 100000
section
namespace Go.KP
theorem a4m (s:Tx) (c:UInt8):Lib.indexByte s c=if c∈s then (l8 s c:Int) else -1:=by
 induction s with
 | nil=>simp [Lib.indexByte]
 | cons b l ih=>
  unfold Lib.indexByte
  by_cases h:b=c
  · subst h
    simp [l8,List.findIdx_cons]
  · have h':(b == c)=false:=by simpa using h
    have h2:l8 (b :: l) c=l8 l c+1:=by simp [l8,List.findIdx_cons,h']
    rw [h',ih,h2]
    by_cases hm:c∈l
    · have hm':c∈b :: l:=List.mem_cons_of_mem _ hm
      rw [if_pos hm,if_pos hm']
      have:(((l8 l c:Nat):Int) == -1)=false:=by rw [beq_eq_false_iff_ne];omega
      rw [this];simp
    · have hm':¬ c∈b :: l:=by simp [hm];exact fun e=>h e.symm
      rw [if_neg hm,if_neg hm']
      simp
theorem c2v (s:Tx) (c:UInt8):Lib.cut s [c]=(f8 s c,k8 s c,decide (c∈s)):=by
 unfold Lib.cut
 rw [Lib.index_one,a4m]
 by_cases h:c∈s
 · rw [if_pos h,if_pos (by omega)]
   simp [f8,k8,h]
 · rw [if_neg h,if_neg (by omega),X0 h,a6c h]
   simp [h]
theorem a4u (s wo:Tx):Lib.containsAny s wo=B3 s wo:=by
 unfold Lib.containsAny
 induction s with
 | nil=>simp [Lib.indexAny,B3]
 | cons b l ih=>
  have e:B3 (b :: l) wo=(decide (b∈wo) || B3 l wo):=rfl
  rw [e,← ih]
  rw [show Lib.indexAny (b :: l) wo=if wo.contains b then 0 else if Lib.indexAny l wo == -1 then -1 else Lib.indexAny l wo+1 from rfl]
  have hc:wo.contains b=decide (b∈wo):=by rw [Bool.eq_iff_iff];simp
  have hge:=Lib.indexAny_ge wo l
  rw [hc]
  by_cases h:b∈wo
  · simp [h]
  · simp only [h,decide_false,Bool.false_or,if_false,Bool.false_eq_true]
    by_cases h2:Lib.indexAny l wo=-1
    · simp [h2]
    · have h2':(Lib.indexAny l wo == -1)=false:=by simpa using h2
      rw [h2']
      simp only [Bool.false_eq_true,if_false]
      rw [decide_eq_true (by omega),decide_eq_true (by omega)]
theorem a4t (n:Nat):Lib.decDigits n=a0o n:=by
 induction n using Nat.strongRecOn with
 | ind n ih=>
  rw [Lib.decDigits]
  by_cases h:n < 10
  · rw [dif_pos h,Y1 h]
  · rw [dif_neg h,a1q h,ih _ (by omega)]
theorem c0d (n:Int):Lib.itoa n=a23 n:=by
 unfold Lib.itoa a23
 split
 · rw [a4t];congr 2;omega
 · rw [a4t]
end Go.KP
namespace Go.Proofs
open Go.PW Go.KP Go.RowKit
class GH extends GF where
 m:Int
 hm:(0,0,Value.int .i64 m)∈gs
 T10:TypeId
 z10:Nat×Nat
 h10:(1,Obj.cells (Lib.pow10Tab.map fun z=>Value.int .u64 z).toArray T10 z10)∈bs
 ts:TypeId
 ps:Value
 hs:(2,0,Value.iface ts ps)∈gs
 tr:TypeId
 pr:Value
 hr:(3,0,Value.iface tr pr)∈gs
variable [GH]
theorem S7 (t:Tx):(bs t).data.toList=t:=by simp [bs]
theorem a8w {B:Nat} (w:World) (n:Nat):Below B w (w.drewN n):=⟨rfl,rfl,rfl,Nat.le_refl _,fun _ _=>rfl⟩
theorem b8e {B:Nat} (w:World) (os:Array Obj) (h:B≤w.heap.size):Below B w (Go.Sort.grow w os):=
 ⟨rfl,rfl,rfl,by simp [Go.Sort.grow],fun k hk=>by simp [Go.Sort.grow,Array.getElem?_append,Nat.lt_of_lt_of_le hk h]⟩
theorem b01 (t:Tx) (c:UInt8) (ht:t.length < 4294967281):f7 Tryz.prog 271 [.val (tx t),.val (tx [c])] (.ret (.tup [.val (tx (f8 t c)),.val (tx (k8 t c)),.val (.bool (decide (c∈t)))]) []) []:=by
 refine b0x (rs:=[tx t,tx [c]]) (qs:=[tx (f8 t c),tx (k8 t c),.bool (decide (c∈t))]) (vals:=[.string (bs t),.string (bs [c])]) (us:=[.string (bs (f8 t c)),.string (bs (k8 t c)),.bool (decide (c∈t))]) rfl rfl fun L w hgl hgb=>?_
 refine (Tryz.strings_Cut (bs t) (bs [c]) GH.m w (by rw [b6];exact ht) (hgl _ GH.hm).2).mono fun e w' ⟨he,n,hw⟩=>?_
 rw [S7,S7,c2v] at he
 exact ⟨he,hw ▸ a8w w n⟩
theorem b55 (t p:Tx):f7 Tryz.prog 274 [.val (tx t),.val (tx p)] (.ret (.tup [.val (tx (if p.isPrefixOf t then t.drop p.length else t)),.val (.bool (p.isPrefixOf t))]) []) []:=by
 refine b0x (rs:=[tx t,tx p]) (qs:=[tx (if p.isPrefixOf t then t.drop p.length else t),.bool (p.isPrefixOf t)]) (vals:=[.string (bs t),.string (bs p)]) (us:=[.string (bs (if p.isPrefixOf t then t.drop p.length else t)),.bool (p.isPrefixOf t)]) rfl rfl fun L w hgl hgb=>?_
 refine (Tryz.strings_CutPrefix (bs t) (bs p) w).mono fun e w' ⟨he,hw⟩=>?_
 rw [S7,S7] at he
 exact ⟨he,a16 hw⟩
theorem b53 (t:Tx) (c:UInt8):f7 Tryz.prog 275 [.val (tx t),.val (rvb c)] (.ret (.val (num (if c∈t then (l8 t c:Int) else -1))) []) []:=by
 refine a0a (rs:=[tx t,rvb c]) (vals:=[.string (bs t),.int .u8 c.toNat]) (v:=.int .i64 (if c∈t then (l8 t c:Int) else -1)) rfl rfl fun L w hgl hgb=>?_
 refine (Tryz.strings_IndexByte (bs t) c.toNat w).mono fun e w' ⟨he,hw⟩=>?_
 rw [S7,Lib.byte_back,a4m] at he
 exact ⟨he,a16 hw⟩
theorem b54 (t p:Tx):f7 Tryz.prog 287 [.val (tx t),.val (tx p)] (.ret (.val (.bool (p.isPrefixOf t))) []) []:=by
 refine a0a (rs:=[tx t,tx p]) (vals:=[.string (bs t),.string (bs p)]) (v:=.bool (p.isPrefixOf t)) rfl rfl fun L w hgl hgb=>?_
 refine (Tryz.strings_HasPrefix (bs t) (bs p) w).mono fun e w' ⟨he,hw⟩=>?_
 rw [S7,S7] at he
 exact ⟨he,a16 hw⟩
theorem b8c (t:Tx) (c:UInt8):f7 Tryz.prog 319 [.val (tx t),.val (tx [c])] (.ret (.val (.bool (decide (c∈t)))) []) []:=by
 refine a0a (rs:=[tx t,tx [c]]) (vals:=[.string (bs t),.string (bs [c])]) (v:=.bool (decide (c∈t))) rfl rfl fun L w hgl hgb=>?_
 refine (Tryz.strings_Contains_one (bs t) c w).mono fun e w' ⟨he,hw⟩=>?_
 rw [S7,a4m] at he
 have e1:decide (0≤(if c∈t then (l8 t c:Int) else -1))=decide (c∈t):=by
  by_cases h:c∈t
  · rw [if_pos h,decide_eq_true h,decide_eq_true (by omega)]
  · rw [if_neg h,decide_eq_false h];rfl
 rw [e1] at he
 exact ⟨he,a16 hw⟩
theorem a8x {t:Tx} (h:I2 t=true):∀ (j:Nat) b,(bs t).data.toList[j]?=some b→b.toNat < 128:=fun j b hb=>by
 rw [S7] at hb
 unfold I2 at h
 rw [List.all_eq_true] at h
 have:=h b (List.mem_of_getElem? hb)
 simp at this
 omega
theorem a5z (t wo:Tx) (ht:t.length < 4294967281) (hw:wo.length < 4294967281) (h1:I2 t=true) (h2:I2 wo=true):f7 Tryz.prog 193 [.val (tx t),.val (tx wo)] (.ret (.val (.bool (B3 t wo))) []) []:=by
 refine a0a (rs:=[tx t,tx wo]) (vals:=[.string (bs t),.string (bs wo)]) (v:=.bool (B3 t wo)) rfl rfl fun L w hgl hgb=>?_
 refine (Tryz.strings_ContainsAny_laid (bs t) (bs wo) w (by rw [b6];exact ht) (by rw [b6];exact hw) (a8x h1) (a8x h2)).mono fun e w' ⟨he,hw⟩=>?_
 rw [S7,S7,a4u] at he
 exact ⟨he,hw⟩
theorem c23 (n:Int) (h0:-9223372036854775808≤n) (h1:n≤9223372036854775807):f7 Tryz.prog 198 [.val (num n)] (.ret (.val (tx (a23 n))) []) []:=by
 refine a0a (rs:=[num n]) (vals:=[.int .i64 n]) (v:=.string (bs (a23 n))) rfl rfl fun L w hgl hgb=>?_
 have htab:Lib.TabIs Tryz.prog w "internal/strconv.uint64pow10" .u64 Lib.pow10Tab:=by
  unfold Lib.TabIs World.var?
  have e:Tryz.prog.globalNamed "internal/strconv.uint64pow10" = some 1:=by kernel_rfl
  rw [e]
  simp only [Option.bind_some]
  rw [(hgb _ GH.h10).2]
 refine (Tryz.strconv_Itoa n h0 h1 w htab).mono fun e w' ⟨he,k,os,hw⟩=>?_
 rw [c0d] at he
 exact ⟨he,hw ▸ (a8w w k).trans (b8e _ _ (Nat.le_refl _))⟩
end Go.Proofs
end
section
namespace Go.Proofs
open Go.PW Go.KP
attribute [local simp] RV.cells RV.one PV.cells PV.solid PV.one w5 i6 n7 n6 RV.ofCells elems PV.killL
section
variable [GF]
theorem a26 (a lo hi:Int):f7 Tryz.prog 114 [.val (num a),.val (num lo),.val (num hi)] (.ret (.val (.bool (decide (lo≤a∧a≤hi)))) []) []:=by
 refine f9 mixed ok114 rfl (fun _=>rfl) ?_
 unfold ir114
 rw [b9]
 by_cases h:lo≤a
 · simp [d9,j4,l0,b7,d8,num,h]
 · simp [d9,j4,l0,b7,d8,num,h]
theorem b0j (b:Bool) (n:Int):f7 Tryz.prog 73 [.val (.bool b),.val (num n)] (.ret (.val (num (if b then 0 else n))) []) []:=by
 refine f9 mixed ok73 rfl (fun _=>rfl) ?_
 unfold ir73
 rw [b9]
 cases b<;>simp [d9,j4,l0,b7,d8,num]
theorem i_long (t:Tx):f7 Tryz.prog 154 [.val (tx t)] (.ret (.val (num (if t.length≤65536 then 0 else 2))) []) []:=by
 refine f9 mixed ok154 rfl (fun _=>rfl) ?_
 unfold ir154
 rw [b9]
 have e:decide ((t.length:Int)≤65536)=decide (t.length≤65536):=by
  by_cases h:t.length≤65536
  · rw [decide_eq_true h,decide_eq_true (by omega)]
  · rw [decide_eq_false h,decide_eq_false (by omega)]
 simp [d9,j4,l0,b7,d8,tx,b6,e]
 refine d7 rfl rfl (.inl rfl) (b0j (decide (t.length≤65536)) 2) ?_
 simp [num]
theorem a7x (c:UInt8):f7 Tryz.prog 203 [.val (rvb c)] (.ret (.val (.bool (v6 c))) []) []:=by
 refine f9 mixed ok203 rfl (fun _=>rfl) ?_
 unfold ir203
 rw [b9]
 have e1:((97:Int)≤c.toNat)↔97≤c.toNat:=by omega
 have e2:((c.toNat:Int)≤122)↔c.toNat≤122:=by omega
 by_cases h:97≤c.toNat
 · simp [d9,j4,l0,b7,d8,rvb,v6,h,e1,e2]
 · simp [d9,j4,l0,b7,d8,rvb,v6,h,e1,e2]
theorem b17 (c:UInt8):f7 Tryz.prog 331 [.val (rvb c)] (.ret (.val (.bool (u3 c))) []) []:=by
 refine f9 mixed ok331 rfl (fun _=>rfl) ?_
 unfold ir331
 rw [b9]
 have e1:((48:Int)≤c.toNat)↔48≤c.toNat:=by omega
 have e2:((c.toNat:Int)≤57)↔c.toNat≤57:=by omega
 by_cases h:48≤c.toNat
 · simp [d9,j4,l0,b7,d8,rvb,u3,h,e1,e2]
 · simp [d9,j4,l0,b7,d8,rvb,u3,h,e1,e2]
theorem b5g (u:LUrl):f7 Tryz.prog 261 [.val (R7 u)] (.ret (.val (.bool (W5 u.scheme))) []) []:=by
 refine f9 mixed ok261 rfl (fun _=>rfl) ?_
 unfold ir261
 rw [b9]
 have e1:(⟨#[104,116,116,112]⟩:ByteArray)=bs a31:=rfl
 have e2:(⟨#[104,116,116,112,115]⟩:ByteArray)=bs a54:=rfl
 by_cases h:u.scheme=a31
 · simp [d9,j4,l0,b7,d8,R7,tx,num,e1,e2,u5,W5,h]
 · by_cases h':u.scheme=a54
   · simp [d9,j4,l0,b7,d8,R7,tx,num,e1,e2,u5,W5,h',show ¬ a54=a31 by decide]
   · simp [d9,j4,l0,b7,d8,R7,tx,num,e1,e2,u5,W5,h,h']
theorem b9c (t:Tx):f7 Tryz.prog 277 [.val (tx t)] (.ret (.val (num (V3 t))) []) []:=by
 refine f9 mixed ok277 rfl (fun _=>rfl) ?_
 unfold ir277
 rw [b9]
 have e1:(⟨#[104,116,116,112]⟩:ByteArray)=bs a31:=rfl
 by_cases h:t=a31
 · simp [d9,j4,l0,b7,d8,tx,e1,u5,V3,h,num]
 · simp [d9,j4,l0,b7,d8,tx,e1,u5,V3,h,num]
def a1x (l:List Int):Int:=(l.find? (fun c=>c != 0)).getD 0
theorem b99 {c:Int} (h:c≠0) (r:List Int):a1x (c :: r)=c:=by simp [a1x,h]
theorem b44 (r:List Int):a1x (0 :: r)=a1x r:=by simp [a1x]
theorem i_first (l:List Int) (hl:l.length < 1099511627776):f7 Tryz.prog 72 [.val (.list 1 (l.map num))] (.ret (.val (num (a1x l))) []) []:=by
 refine f9 mixed ok72 rfl (fun _=>rfl) ?_
 unfold ir72
 rw [b9]
 simp [d9,j4,l0,b7,d8,num]
 refine l4 (X:=Nat) (fun i=>⟨u0 [(5,.val (.list 1 (l.map num))),(6,.val (num l.length)),(7,.val (num i))],u4 []⟩) (fun i=>i≤l.length∧a1x l=a1x (l.drop i)) (fun i=>l.length - i) 0 (Le.mk _ _ ?_ ?_) ?_ ?_
 · simp [upd,num]
 · simp
 · simp
 · rintro i ⟨hi,hinv⟩
   simp [num]
   refine i7 (fun h1=>?_) (fun h1=>?_)
   · have e:(l.map num)[i]?.getD RV.nilptr=num l[i]:=by simp [List.getElem?_eq_getElem h1]
     have e2:(l.map num)[i]'(by simpa using h1)=num l[i]:=by simp
     rw [List.drop_eq_getElem_cons h1] at hinv
     by_cases h0:l[i]=0
     · simp [num,h1,h0]
       refine LoopNext.mk (i+1) ⟨by omega,?_⟩ (by omega) (Le.mk _ _ ?_ ?_)
       · rw [hinv,h0,b44]
       · simp [num];exact wrap_i64 (by omega) (by omega)
       · simp
     · simp [num,h1,h0]
       rw [hinv,b99 h0]
   · have e:i=l.length:=by omega
     subst e
     simp [num]
     rw [hinv];simp [a1x]
theorem b7n (t:Tx) (ht:t.length < 1099511627776):f7 Tryz.prog 317 [.val (tx t)] (.ret (.val (.bool (I2 t))) []) []:=by
 refine f9 mixed ok317 rfl (fun _=>rfl) ?_
 unfold ir317
 rw [b9]
 simp [d9,j4,l0,b7,d8,tx,b6]
 refine l4 (X:=Nat) (fun i=>⟨u0 [(0,.val (tx t)),(5,.val (num t.length)),(6,.val (num i))],u4 []⟩) (fun i=>i≤t.length∧I2 (t.take i)=true) (fun i=>t.length - i) 0 (Le.mk _ _ ?_ ?_) ?_ ?_
 · simp [upd,num,tx]
 · simp
 · simp [I2]
 · rintro i ⟨hi,hinv⟩
   simp [num,tx]
   refine i7 (fun h1=>?_) (fun h1=>?_)
   · simp [tx,num,b6,f6,h1]
     have hw:IntKind.i64.wrap (t[i].toNat:Int)=(t[i].toNat:Int):=wrap_i64 (by omega) (by have:=t[i].toNat_lt;omega)
     refine d7 rfl rfl (.inl rfl) (by rw [hw];exact a26 (t[i].toNat:Int) 33 126) ?_
     have e:decide ((33:Int)≤(t[i].toNat:Int)∧(t[i].toNat:Int)≤126)=decide (33≤t[i].toNat∧t[i].toNat≤126):=by
      by_cases h:33≤t[i].toNat∧t[i].toNat≤126
      · rw [decide_eq_true h,decide_eq_true (by omega)]
      · rw [decide_eq_false h,decide_eq_false (by omega)]
     rw [e]
     have hs:I2 (t.take (i+1))=(I2 (t.take i) && decide (33≤t[i].toNat∧t[i].toNat≤126)):=O0 _ _ _ h1
     cases hd:decide (33≤t[i].toNat∧t[i].toNat≤126) with
     | true=>
      simp
      refine LoopNext.mk (i+1) ⟨by omega,?_⟩ (by omega) (Le.mk _ _ ?_ ?_)
      · rw [hs,hinv,hd];rfl
      · simp [num,tx];exact wrap_i64 (by omega) (by omega)
      · simp
     | false=>
      have:I2 t=false:=by
       unfold I2
       rw [List.all_eq_false]
       exact ⟨t[i],List.getElem_mem h1,by rw [hd];simp⟩
      rw [this]
      simp
   · have e:i=t.length:=by omega
     subst e
     rw [List.take_length] at hinv
     simp [hinv]
def a6x (i:Nat) (c:UInt8):Bool:=decide (i=0) || (!u3 c && !decide (c.toNat=45) && !decide (c.toNat=43) && !decide (c.toNat=46))
theorem sch_eq (i:Nat) (c:UInt8):(!v6 c && a6x i c)=!(if i=0 then v6 c else O9 c):=by
 unfold a6x O9
 have e:decide (c.toNat=45∨c.toNat=43∨c.toNat=46)=(decide (c.toNat=45) || decide (c.toNat=43) || decide (c.toNat=46)):=by
  by_cases h1:c.toNat=45<;>by_cases h2:c.toNat=43<;>by_cases h3:c.toNat=46<;>simp [h1,h2,h3]
 rw [e]
 by_cases h:i=0
 · simp [h]
 · simp only [h,decide_false,Bool.false_or,if_false]
   cases v6 c<;>cases u3 c<;>cases decide (c.toNat=45)<;>cases decide (c.toNat=43)<;>cases decide (c.toNat=46)<;>rfl
structure SS (st:St) (t:Tx) (i m:Nat) (c:UInt8):Prop where
 e0:st.env 0=.val (tx t)
 e3:st.env 3=.val (num i)
 e4:st.env 4=.val (rvb c)
 e7:st.env 7=.val (num m)
 e8:st.env 8=.val (num i)
theorem sops18 {Ks:Kx (St→Prop)} {kx:Kx (RV→St→Prop)} {st:St} {t:Tx} {i m:Nat} {c:UInt8} {b:Bool} (h:SS st t i m c) (hb:st.env 17=.val (.bool b)) (hK:∀ st',SS st' t i m c→st'.env 37=.val (.bool (b && a6x i c))→Ks.k st'):EO Tryz.prog ir316_o18 st (Ks:=Ks) (kx:=kx):=by
 unfold ir316_o18
 cases b with
 | false=>
  simp [hb]
  refine hK _ ⟨?_,?_,?_,?_,?_⟩ ?_<;>simp [h.e0,h.e3,h.e4,h.e7,h.e8]
 | true=>
  by_cases h0:i=0
  · subst h0
    simp [hb,h.e3,num]
    refine hK _ ⟨?_,?_,?_,?_,?_⟩ ?_<;>simp [h.e0,h.e3,h.e4,h.e7,h.e8,a6x]
  · simp [hb,h.e3,h.e4,num,h0,rvb]
    refine d7 rfl rfl (.inl rfl) (b17 c) ?_
    have e3:((c.toNat:Int)=45)↔c.toNat=45:=by omega
    have e4:((c.toNat:Int)=43)↔c.toNat=43:=by omega
    have e5:((c.toNat:Int)=46)↔c.toNat=46:=by omega
    cases hd:u3 c with
    | true=>
     simp [hb,h.e3,h.e4,rvb,h0]
     refine hK _ ⟨?_,?_,?_,?_,?_⟩ ?_<;>simp [h.e0,h.e3,h.e4,h.e7,h.e8,a6x,h0,hd,num,rvb]
    | false=>
     by_cases h1:c.toNat=45
     · simp [hb,h.e3,h.e4,rvb,h0,e3,e4,e5,h1]
       refine hK _ ⟨?_,?_,?_,?_,?_⟩ ?_<;>simp [h.e0,h.e3,h.e4,h.e7,h.e8,a6x,h0,hd,h1,num,rvb]
     · by_cases h2:c.toNat=43
       · simp [hb,h.e3,h.e4,rvb,h0,e3,e4,e5,h1,h2]
         refine hK _ ⟨?_,?_,?_,?_,?_⟩ ?_<;>simp [h.e0,h.e3,h.e4,h.e7,h.e8,a6x,h0,hd,h1,h2,num,rvb]
       · by_cases h3:c.toNat=46
         · simp [hb,h.e3,h.e4,rvb,h0,e3,e4,e5,h1,h2,h3]
           refine hK _ ⟨?_,?_,?_,?_,?_⟩ ?_<;>simp [h.e0,h.e3,h.e4,h.e7,h.e8,a6x,h0,hd,h1,h2,h3,num,rvb]
         · have e3':¬ ((c.toNat:Int)=45):=by omega
           have e4':¬ ((c.toNat:Int)=43):=by omega
           have e5':¬ ((c.toNat:Int)=46):=by omega
           simp [hb,h.e3,h.e4,rvb,h0,e3,e4,e5,h1,h2,h3]
           refine hK _ ⟨?_,?_,?_,?_,?_⟩ ?_<;>simp [h.e0,h.e3,h.e4,h.e7,h.e8,a6x,h0,hd,h1,h2,h3,num,rvb,e5']
theorem b7m (t:Tx) (ht:t.length < 1099511627776):f7 Tryz.prog 316 [.val (tx t)] (.ret (.val (.bool (N9 t))) []) []:=by
 refine f9 mixed ok316 rfl (fun _=>rfl) ?_
 unfold ir316
 rw [b9]
 have hmn:(if (13:Int) < (t.length:Int) then 13 else (t.length:Int))=((min t.length 13:Nat):Int):=by split<;>omega
 simp [d9,j4,l0,b7,d8,tx,b6,hmn]
 refine l4 (X:=Nat) (fun i=>⟨u0 [(0,.val (tx t)),(7,.val (num (min t.length 13:Nat))),(8,.val (num i))],u4 []⟩) (fun i=>i≤min t.length 13∧a1j (t.take i)=true) (fun i=>t.length - i) 0 (Le.mk _ _ ?_ ?_) ?_ ?_
 · simp [upd,num,tx]
 · simp
 · simp [a1j]
 · rintro i ⟨hi,hinv⟩
   have hib:((i:Int) < ((min t.length 13:Nat):Int))↔i < min t.length 13:=by omega
   unfold ir316_l9
   by_cases h1:i < min t.length 13
   · have h1t:i < t.length:=by omega
     have h1':i < t.length∧i < 13:=by omega
     simp [num,tx,hib,h1,h1'.1,h1'.2,b6,f6]
     refine d7 rfl rfl (.inl rfl) (a7x t[i]) ?_
     simp
     refine sops18 (t:=t) (i:=i) (m:=min t.length 13) (c:=t[i]) (b:=!v6 t[i]) ⟨?_,?_,?_,?_,?_⟩ ?_ (fun st' q1 q2=>?_)
     · simp [tx]
     · simp [num]
     · simp [rvb]
     · simp [num]
     · simp [num]
     · simp
     · rw [sch_eq] at q2
       simp only [z7,H0,A0,G8,A1,t8,z8,G9,o0,C0,I4,I5,k9,r8,r9,m8,A2,t7,n5,G7,z6,t6,s8,E9,F0,a27,a28,Option.getD_some,Option.getD_none,D5,u7,q7,E6,p9,o8,E8,o9,E7,E5,E4,I9,x8,p7,E2,x6,p6,E1,D3,E3,x7,D8,o7,x5,D9,J1,J0,D4,D6,p5,D7,x9,p8,C3,o2,D2,D1,D0,I6,x3,o4,C8,x1,o3,C7,C1,C9,x2,C5,o1,w9,C6,I8,I7,C2,w8,o6,C4,x4,o5,L2,K9,M3,L3,L7,L5,L4,M2,L6,L8,L9,M0,M1,A6,A5,A4,O5,O6,u2,H1,u9,F4,y4,M6,u1,U8,P0,M8,Q3,Q5,Q4,U9,V0,K2,K4,K3,K5,K6,Q0,y6,P9,F5,F6,F7,y7,a3d,G4,z1,U6,U7,J2,O7,O8,Option.map_some,Option.map_none,F8,y8,y0,q8,F2,F3,J4,J3,R0,Q9,K8,G5,G6,K7,Q6,Q7,J6,r6,J7,q9,P4,G3,G2,n0,Q2,Q8,J9,P6,P8,P7,y5,B7,B9,B8,l5,Q1,V2,V1,P1,J8,a0g,P2,r7,G0,G1,y9,F9,l9,w6,l7,w7,l6,M5,R1,R2,A7,A8,H3,H2,F1,q2]
       have hsucc:=a8d t i h1t
       cases hgood:(if i=0 then v6 t[i] else O9 t[i]) with
       | true=>
        refine i7 (fun h=>by simp at h) (fun _=>?_)
        simp [q1.e8,num]
        refine LoopNext.mk (i+1) ⟨by omega,?_⟩ (by omega) (Le.mk _ _ ?_ ?_)
        · rw [hsucc,hinv,hgood];rfl
        · simp [num,tx,q1.e0,q1.e7];exact wrap_i64 (by omega) (by omega)
        · simp
       | false=>
        refine i7 (fun _=>?_) (fun h=>by simp at h)
        have:N9 t=false:=by
         unfold N9
         rw [a6w t i h1t hgood,Bool.and_false]
        rw [this]
        simp
   · have e:i=min t.length 13:=by omega
     simp [num,tx,hib,h1,b6]
     refine d7 rfl rfl (.inl rfl) (a26 t.length 1 12) ?_
     have:N9 t=decide ((1:Int)≤(t.length:Int)∧(t.length:Int)≤12):=by
      unfold N9
      by_cases hl:t.length≤12
      · have:i=t.length:=by omega
        subst this
        rw [List.take_length] at hinv
        rw [hinv,Bool.and_true]
        by_cases h0:1≤t.length
        · rw [decide_eq_true (by omega),decide_eq_true (by omega)]
        · rw [decide_eq_false (by omega),decide_eq_false (by omega)]
      · rw [decide_eq_false (by omega),decide_eq_false (by omega)];rfl
     rw [this]
     simp
end
section
variable [GH]
theorem c0i (n:Int) (h0:-9223372036854775808≤n) (h1:n≤9223372036854775807):f7 Tryz.prog 139 [.val (num n)] (.ret (.val (tx (a23 n))) []) []:=by
 refine f9 mixed ok139 rfl (fun _=>rfl) ?_
 unfold ir139
 rw [b9]
 simp [d9,j4,l0,b7,d8,num]
 refine d7 rfl rfl (.inl rfl) (c23 n h0 h1) ?_
 simp
end
end Go.Proofs
end
section
namespace Go.Proofs
open Go.PW Go.KP
variable [GF]
structure HS (st:St) (t:Tx) (i:Nat) (c:UInt8):Prop where
 e0:st.env 0=.val (tx t)
 e3:st.env 3=.val (num i)
 e4:st.env 4=.val (rvb c)
 e6:st.env 6=.val (num t.length)
 e7:st.env 7=.val (num i)
section
variable {Ks:Kx (St→Prop)} {kx:Kx (RV→St→Prop)} {st:St} {t:Tx} {i:Nat} {c:UInt8} {b:Bool}
def c0k (t:Tx) (i:Nat):Bool:=decide ((t.getD (i - 1) 0).toNat=46)
theorem b7r (hi:i < t.length) (hl:t.length < 1099511627776) (h:HS st t i c) (hb:st.env 43=.val (.bool b)) (h0:b=false→i≠0) (hK:∀ st',HS st' t i c→st'.env 49=.val (.bool (b || c0k t i))→Ks.k st'):EO Tryz.prog ir318_o44 st (Ks:=Ks) (kx:=kx):=by
 unfold ir318_o44
 cases b with
 | true=>
  simp [hb]
  refine hK _ ⟨?_,?_,?_,?_,?_⟩ ?_<;>simp [h.e0,h.e3,h.e4,h.e6,h.e7]
 | false=>
  have hi0:=h0 rfl
  have hw:IntKind.i64.wrap ((i:Int) - 1)=((i - 1:Nat):Int):=by rw [wrap_i64 (by omega) (by omega)];omega
  have hi1:i - 1 < t.length:=by omega
  have e46:((t[i - 1].toNat:Int)=46)↔t[i - 1].toNat=46:=by omega
  by_cases h1:t[i - 1].toNat=46
  · simp [hb,h.e0,h.e3,h.e4,h.e6,h.e7,tx,num,rvb,b6,f6,hw,hi1,e46,h1]
    refine hK _ ⟨?_,?_,?_,?_,?_⟩ ?_<;>simp [h.e0,h.e3,h.e4,h.e6,h.e7,tx,num,rvb,c0k,List.getElem?_eq_getElem hi1,h1]
  · have h1':((t[i - 1].toNat:Int) == 46)=false:=by simp;omega
    simp [hb,h.e0,h.e3,h.e4,h.e6,h.e7,tx,num,rvb,b6,f6,hw,hi1,e46,h1,h1']
    refine hK _ ⟨?_,?_,?_,?_,?_⟩ ?_<;>simp [h.e0,h.e3,h.e4,h.e6,h.e7,tx,num,rvb,c0k,List.getElem?_eq_getElem hi1,h1,h1']
def c0l (t:Tx) (i:Nat):Bool:=decide ((t.getD (i - 1) 0).toNat=45) || c0k t i
theorem b7s (hi:i < t.length) (hl:t.length < 1099511627776) (h:HS st t i c) (hb:st.env 36=.val (.bool b)) (h0:b=false→i≠0) (hK:∀ st',HS st' t i c→st'.env 49=.val (.bool (b || c0l t i))→Ks.k st'):EO Tryz.prog ir318_o37 st (Ks:=Ks) (kx:=kx):=by
 unfold ir318_o37
 cases b with
 | true=>
  simp [hb]
  refine b7r (b:=true) (t:=t) (i:=i) (c:=c) hi hl ⟨?_,?_,?_,?_,?_⟩ ?_ (by simp) (fun st' q1 q2=>hK st' q1 (by simpa using q2))<;>simp [h.e0,h.e3,h.e4,h.e6,h.e7]
 | false=>
  have hi0:=h0 rfl
  have hw:IntKind.i64.wrap ((i:Int) - 1)=((i - 1:Nat):Int):=by rw [wrap_i64 (by omega) (by omega)];omega
  have hi1:i - 1 < t.length:=by omega
  have e46:((t[i - 1].toNat:Int)=45)↔t[i - 1].toNat=45:=by omega
  by_cases h1:t[i - 1].toNat=45
  · simp [hb,h.e0,h.e3,h.e4,h.e6,h.e7,tx,num,rvb,b6,f6,hw,hi1,e46,h1]
    refine b7r (b:=true) (t:=t) (i:=i) (c:=c) hi hl ⟨?_,?_,?_,?_,?_⟩ ?_ (by simp) (fun st' q1 q2=>hK st' q1 (by rw [q2];simp [c0l,List.getElem?_eq_getElem hi1,h1]))<;>simp [h.e0,h.e3,h.e4,h.e6,h.e7,tx,num,rvb]
  · have h1':((t[i - 1].toNat:Int) == 45)=false:=by simp;omega
    simp [hb,h.e0,h.e3,h.e4,h.e6,h.e7,tx,num,rvb,b6,f6,hw,hi1,e46,h1,h1']
    refine b7r (b:=false) (t:=t) (i:=i) (c:=c) hi hl ⟨?_,?_,?_,?_,?_⟩ ?_ (fun _=>hi0) (fun st' q1 q2=>hK st' q1 (by rw [q2];simp [c0l,List.getElem?_eq_getElem hi1,h1]))<;>simp [h.e0,h.e3,h.e4,h.e6,h.e7,tx,num,rvb]
def c0m (t:Tx) (i:Nat):Bool:=decide (i=t.length - 1) || c0l t i
theorem b7t (hi:i < t.length) (hl:t.length < 1099511627776) (h:HS st t i c) (hb:st.env 29=.val (.bool b)) (h0:b=false→i≠0) (hK:∀ st',HS st' t i c→st'.env 49=.val (.bool (b || c0m t i))→Ks.k st'):EO Tryz.prog ir318_o30 st (Ks:=Ks) (kx:=kx):=by
 unfold ir318_o30
 cases b with
 | true=>
  simp [hb]
  refine b7s (b:=true) (t:=t) (i:=i) (c:=c) hi hl ⟨?_,?_,?_,?_,?_⟩ ?_ (by simp) (fun st' q1 q2=>hK st' q1 (by simpa using q2))<;>simp [h.e0,h.e3,h.e4,h.e6,h.e7]
 | false=>
  have hi0:=h0 rfl
  have hw:IntKind.i64.wrap ((t.length:Int) - 1)=((t.length - 1:Nat):Int):=by rw [wrap_i64 (by omega) (by omega)];omega
  have e:((i:Int) == ((t.length - 1:Nat):Int))=decide (i=t.length - 1):=by
   rw [Bool.eq_iff_iff];simp;omega
  simp only [z7,H0,A0,G8,A1,t8,z8,G9,o0,C0,I4,I5,k9,r8,r9,m8,A2,t7,n5,G7,z6,t6,s8,E9,F0,a27,a28,Option.getD_some,Option.getD_none,D5,u7,q7,E6,p9,o8,E8,o9,E7,E5,E4,I9,x8,p7,E2,x6,p6,E1,D3,E3,x7,D8,o7,x5,D9,J1,J0,D4,D6,p5,D7,x9,p8,C3,o2,D2,D1,D0,I6,x3,o4,C8,x1,o3,C7,C1,C9,x2,C5,o1,w9,C6,I8,I7,C2,w8,o6,C4,x4,o5,L2,K9,M3,L3,L7,L5,L4,M2,L6,L8,L9,M0,M1,A6,A5,A4,O5,O6,u2,H1,u9,F4,y4,M6,u1,U8,P0,M8,Q3,Q5,Q4,U9,V0,K2,K4,K3,K5,K6,Q0,y6,P9,F5,F6,F7,y7,a3d,G4,z1,U6,U7,J2,O7,O8,Option.map_some,Option.map_none,F8,y8,y0,q8,F2,F3,J4,J3,R0,Q9,K8,G5,G6,K7,Q6,Q7,J6,r6,J7,q9,P4,G3,G2,n0,Q2,Q8,J9,P6,P8,P7,y5,B7,B9,B8,l5,Q1,V2,V1,P1,J8,a0g,P2,r7,G0,G1,y9,F9,l9,w6,l7,w7,l6,M5,R1,R2,A7,A8,H3,H2,F1,hb,h.e0,h.e3,h.e4,h.e6,h.e7,tx,num,rvb,b6,hw,e]
  refine i7 (fun _=>?_) (fun h=>absurd rfl h)
  by_cases h1:i=t.length - 1
  · simp [hb,h.e0,h.e3,h.e4,h.e6,h.e7,tx,num,rvb,b6,hw,e,(eq_true h1:(i=t.length - 1)=True)]
    refine b7s (b:=true) (t:=t) (i:=i) (c:=c) hi hl ⟨?_,?_,?_,?_,?_⟩ ?_ (by simp) (fun st' q1 q2=>hK st' q1 (by rw [q2];simp [c0m,(eq_true h1:(i=t.length - 1)=True)]))<;>simp [h.e0,h.e3,h.e4,h.e6,h.e7,tx,num,rvb]
  · simp [hb,h.e0,h.e3,h.e4,h.e6,h.e7,tx,num,rvb,b6,hw,e,h1]
    refine b7s (b:=false) (t:=t) (i:=i) (c:=c) hi hl ⟨?_,?_,?_,?_,?_⟩ ?_ (fun _=>hi0) (fun st' q1 q2=>hK st' q1 (by rw [q2];simp [c0m,h1]))<;>simp [h.e0,h.e3,h.e4,h.e6,h.e7,tx,num,rvb]
def b1m (t:Tx) (i:Nat):Bool:=decide (i=0) || c0m t i
theorem b7u (hi:i < t.length) (hl:t.length < 1099511627776) (h:HS st t i c) (hb:st.env 25=.val (.bool b)) (hK:∀ st',HS st' t i c→st'.env 49=.val (.bool (b || b1m t i))→Ks.k st'):EO Tryz.prog ir318_o26 st (Ks:=Ks) (kx:=kx):=by
 unfold ir318_o26
 cases b with
 | true=>
  simp [hb]
  refine b7t (b:=true) (t:=t) (i:=i) (c:=c) hi hl ⟨?_,?_,?_,?_,?_⟩ ?_ (by simp) (fun st' q1 q2=>hK st' q1 (by simpa using q2))<;>simp [h.e0,h.e3,h.e4,h.e6,h.e7]
 | false=>
  by_cases h1:i=0
  · subst h1
    simp [hb,h.e0,h.e3,h.e4,h.e6,h.e7,tx,num,rvb,b6]
    refine b7t (b:=true) (t:=t) (i:=0) (c:=c) hi hl ⟨?_,?_,?_,?_,?_⟩ ?_ (by simp) (fun st' q1 q2=>hK st' q1 (by rw [q2];simp [b1m]))<;>simp [h.e0,h.e3,h.e4,h.e6,h.e7,tx,num,rvb]
  · simp [hb,h.e0,h.e3,h.e4,h.e6,h.e7,tx,num,rvb,b6,h1]
    refine b7t (b:=false) (t:=t) (i:=i) (c:=c) hi hl ⟨?_,?_,?_,?_,?_⟩ ?_ (fun _=>h1) (fun st' q1 q2=>hK st' q1 (by rw [q2];simp [b1m,h1]))<;>simp [h.e0,h.e3,h.e4,h.e6,h.e7,tx,num,rvb,h1]
end
def U4 (t:Tx) (i:Nat) (c:UInt8):Bool:=(!decide (c.toNat=45) && !decide (c.toNat=46)) || b1m t i
theorem c2o {K:Kx (PExit→St→Prop)} {st:St} {t:Tx} {i:Nat} {c:UInt8} (hi:i < t.length) (hl:t.length < 1099511627776) (h:HS st t i c)
 (hR:U4 t i c=true→∀ st',st'.env 2=.val (.bool false)→K.k .ret st') (hN:U4 t i c=false→∀ st',HS st' t i c→K.k .normal st'):EC Tryz.prog ir318_s19 st (K:=K):=by
 unfold ir318_s19
 have hend:∀ b,b=(!decide (c.toNat=45) && !decide (c.toNat=46))→∀ st':St,HS st' t i c→st'.env 49=.val (.bool (b || b1m t i)) →
  CD (st'.env 49) (A:=⟨EC Tryz.prog (.seq (.reg [⟨some 2,.mov (.k (.val (.bool false))),none⟩]) .ret) st' (K:=K)⟩) (B:=⟨EC Tryz.prog .skip st' (K:=K)⟩):=by
  intro b hb st' q1 q2
  rw [q2]
  have e:(b || b1m t i)=U4 t i c:=by rw [hb];rfl
  rw [e]
  cases hbd:U4 t i c with
  | true=>
   simp
   exact hR hbd _ (by simp)
  | false=>
   simp
   exact hN hbd _ q1
 have e3:((c.toNat:Int)=45)↔c.toNat=45:=by omega
 have e5:((c.toNat:Int)=46)↔c.toNat=46:=by omega
 by_cases h1:c.toNat=45
 · simp [h.e0,h.e3,h.e4,h.e6,h.e7,tx,num,rvb,e3,e5,h1]
   refine b7u (b:=false) (t:=t) (i:=i) (c:=c) hi hl ⟨?_,?_,?_,?_,?_⟩ ?_ (fun st' q1 q2=>hend false (by simp [h1]) st' q1 q2)<;>simp [h.e0,h.e3,h.e4,h.e6,h.e7,tx,num,rvb,h1]
 · by_cases h2:c.toNat=46
   · simp [h.e0,h.e3,h.e4,h.e6,h.e7,tx,num,rvb,e3,e5,h1,h2]
     refine b7u (b:=false) (t:=t) (i:=i) (c:=c) hi hl ⟨?_,?_,?_,?_,?_⟩ ?_ (fun st' q1 q2=>hend false (by simp [h2]) st' q1 q2)<;>simp [h.e0,h.e3,h.e4,h.e6,h.e7,tx,num,rvb,h2]
   · have h2':((c.toNat:Int) == 46)=false:=by simp;omega
     simp [h.e0,h.e3,h.e4,h.e6,h.e7,tx,num,rvb,e3,e5,h1,h2,h2']
     refine b7u (b:=true) (t:=t) (i:=i) (c:=c) hi hl ⟨?_,?_,?_,?_,?_⟩ ?_ (fun st' q1 q2=>hend true (by simp [h1,h2]) st' q1 q2)<;>simp [h.e0,h.e3,h.e4,h.e6,h.e7,tx,num,rvb,h1,h2]
     all_goals omega
def Y7 (c:UInt8):Bool:=v6 c || u3 c
def Z9 (t:Tx) (i:Nat):Bool:=decide (i=0) || !Y7 (t.getD (i - 1) 0)
theorem a90 {c:UInt8} (h:c.toNat=45∨c.toNat=46):Y7 c=false:=by
 unfold Y7 v6 u3
 rcases h with h | h<;>simp [h]
theorem c2m (t:Tx) (ht:t.length < 1099511627776):f7 Tryz.prog 318 [.val (tx t)] (.ret (.val (.bool (Y6 t))) []) []:=by
 refine f9 mixed ok318 rfl (fun _=>rfl) ?_
 unfold ir318
 rw [b9]
 simp [d9,j4,l0,b7,d8,tx,b6]
 refine l4 (X:=Nat) (fun i=>⟨u0 [(0,.val (tx t)),(6,.val (num t.length)),(7,.val (num i))],u4 []⟩) (fun i=>i≤t.length∧Y6 t=N6 (Z9 t i) (t.drop i)∧(0 < i→Y7 (t.getD (i - 1) 0)=true∨((t.getD (i - 1) 0).toNat=45∨(t.getD (i - 1) 0).toNat=46)∧i < t.length)) (fun i=>t.length - i) 0 (Le.mk _ _ ?_ ?_) ?_ ?_
 · simp [upd,num,tx]
 · simp
 · simp [Z9,Y6]
 · rintro i ⟨hi,hinv,hprev⟩
   unfold ir318_l8
   simp [num,tx]
   refine i7 (fun h1=>?_) (fun h1=>?_)
   · have hstep:=b0f (Z9 t i) t i h1
     have hg1:t.getD (i+1 - 1) 0=t[i]:=by rw [Nat.add_sub_cancel];exact a2f _ _ _ h1
     have hl1:Z9 t (i+1)=!Y7 t[i]:=by
      unfold Z9
      rw [hg1];simp
     have hnext:∀ st':St,st'.env 0=.val (tx t)→st'.env 6=.val (num t.length)→st'.env 7=.val (num ((i:Int)+1))→Y6 t=N6 (!Y7 t[i]) (t.drop (i+1))→(Y7 t[i]=true∨(t[i].toNat=45∨t[i].toNat=46)∧i+1 < t.length) →
      ∃ x',(x'≤t.length∧Y6 t=N6 (Z9 t x') (t.drop x')∧(0 < x'→Y7 (t.getD (x' - 1) 0)=true∨((t.getD (x' - 1) 0).toNat=45∨(t.getD (x' - 1) 0).toNat=46)∧x' < t.length))∧t.length - x' < t.length - i∧Le st' ⟨u0 [(0,.val (tx t)),(6,.val (num t.length)),(7,.val (num x'))],u4 []⟩:=fun st' q1 q2 q3 q4 q5=>by
      refine ⟨i+1,⟨by omega,by rw [hl1];exact q4,fun _=>by rw [hg1];exact q5⟩,by omega,Le.mk _ _ ?_ ?_⟩
      · simp [q1,q2,q3]
      · simp
     simp [tx,num,b6,f6,h1]
     refine d7 rfl rfl (.inl rfl) (a7x t[i]) ?_
     have hplain:Y7 t[i]=true→Y6 t=N6 (!Y7 t[i]) (t.drop (i+1)):=fun hp=>by
      rw [hinv,hstep]
      have:(v6 t[i] || u3 t[i])=true:=hp
      rw [this,hp];rfl
     cases hlow:v6 t[i] with
     | true=>
      have hp:Y7 t[i]=true:=by unfold Y7;rw [hlow];rfl
      simp
      refine hnext _ ?_ ?_ ?_ (hplain hp) (.inl hp)
      · simp [tx]
      · simp [num]
      · simp [num];exact wrap_i64 (by omega) (by omega)
     | false=>
      simp
      refine d7 rfl rfl (.inl rfl) (b17 t[i]) ?_
      cases hdig:u3 t[i] with
      | true=>
       have hp:Y7 t[i]=true:=by unfold Y7;rw [hdig];simp
       simp
       refine hnext _ ?_ ?_ ?_ (hplain hp) (.inl hp)
       · simp [tx]
       · simp [num]
       · simp [num];exact wrap_i64 (by omega) (by omega)
      | false=>
       have hp:Y7 t[i]=false:=by unfold Y7;rw [hlow,hdig];rfl
       have hp':(v6 t[i] || u3 t[i])=false:=hp
       simp
       refine c2o (t:=t) (i:=i) (c:=t[i]) h1 ht ⟨?_,?_,?_,?_,?_⟩ (fun hbd st' q=>?_) (fun hbd st' q=>?_)
       · simp [tx]
       · simp [num]
       · simp [rvb]
       · simp [num]
       · simp [num]
       · have:Y6 t=false:=by
          rw [hinv,hstep,hp']
          by_cases hcs:t[i].toNat=45∨t[i].toNat=46
          · have hb26':b1m t i=true:=by
             unfold U4 at hbd
             rcases hcs with h | h<;>simpa [h] using hbd
            have hlast:Z9 t i=true∨i=t.length - 1:=by
             unfold b1m c0m c0l c0k at hb26'
             simp only [Bool.or_eq_true,decide_eq_true_eq] at hb26'
             rcases hb26' with h | h | h | h
             · left;unfold Z9;rw [decide_eq_true h];rfl
             · right;exact h
             · left;unfold Z9;rw [a90 (.inl h)];simp
             · left;unfold Z9;rw [a90 (.inr h)];simp
            by_cases hla:Z9 t i=true
            · rw [hla];simp
            · have hei:i=t.length - 1:=hlast.resolve_left hla
              have hd:t.drop (i+1)=[]:=List.drop_eq_nil_of_le (by omega)
              rw [hd]
              cases (Z9 t i || !decide (t[i].toNat=45∨t[i].toNat=46))<;>rfl
          · rw [decide_eq_false hcs];simp
         rw [this]
         simp [q]
       · have hcs:t[i].toNat=45∨t[i].toNat=46:=by
          unfold U4 at hbd
          by_cases h45:t[i].toNat=45
          · exact .inl h45
          · by_cases h46:t[i].toNat=46
            · exact .inr h46
            · simp [h45,h46] at hbd
         have hb26':b1m t i=false:=by
          unfold U4 at hbd
          rcases hcs with h | h<;>simpa [h] using hbd
         unfold b1m c0m c0l c0k at hb26'
         simp only [Bool.or_eq_false_iff,decide_eq_false_iff_not] at hb26'
         obtain ⟨k0,k1,k2,k3⟩:=hb26'
         have hla:Z9 t i=false:=by
          unfold Z9
          rcases hprev (by omega) with h | ⟨h | h,_⟩
          · rw [h,decide_eq_false k0];rfl
          · exact absurd h k2
          · exact absurd h k3
         simp [q.e7,num]
         refine hnext _ ?_ ?_ ?_ ?_ (.inr ⟨hcs,by omega⟩)
         · simp [q.e0]
         · simp [q.e6]
         · simp [num];exact wrap_i64 (by omega) (by omega)
         · rw [hinv,hstep,hp',hla,decide_eq_true hcs,hp];rfl
   · have e:i=t.length:=by omega
     subst e
     have e3:(⟨#[]⟩:ByteArray)=bs []:=rfl
     rw [List.drop_length] at hinv
     have hfin:Y6 t=!decide (t=[]):=by
      rw [hinv]
      unfold Z9
      simp only [N6]
      by_cases h0:t=[]
      · subst h0;rfl
      · have hpos:0 < t.length:=List.length_pos_iff.2 h0
        rcases hprev hpos with h | ⟨_,h⟩
        · rw [h,decide_eq_false (by omega),decide_eq_false h0];rfl
        · omega
     rw [hfin]
     simp [tx,e3,u5]
end Go.Proofs
end
section
namespace Go.Proofs
open Go.PW Go.KP
attribute [local simp] RV.cells RV.one PV.cells PV.solid PV.one w5 i6 n7 n6 RV.ofCells elems PV.killL
variable [GH]
theorem c16 (n:Int) (h0:-9223372036854775808≤n) (h1:n≤9223372036854775807):(a23 n).length≤20:=by
 unfold a23
 split
 · have:=a1y 18 (-n).toNat (by omega)
   simp;omega
 · have:=a1y 18 n.toNat (by omega)
   omega
structure UT (st:St) (u:LUrl) (pre:Tx):Prop where
 e1:st.env 1=.ptr 1 0
 e3:st.env 3=.val (tx pre)
 m1:st.mem 1=.box (b8 u)
abbrev txt (t:Tx):Kx (PExit→St→Prop):=⟨Y9 [.t 2] (.val (tx t))⟩
theorem b49 (u:LUrl) (hs:u.Small) (pre:Tx) (hp:pre.length < 5497558138880) (st:St) (h:UT st u pre) :
 EC Tryz.prog ir262_from7 st (K:=txt (pre++(if u.hasQ then 63 :: u.query else [])++(if u.hasF then 35 :: u.frag else []))):=by
 unfold ir262_from7
 obtain ⟨s1,s2,s3,s4,s5,s6,s7⟩:=hs
 have e5:(⟨#[63]⟩:ByteArray)=bs [63]:=rfl
 have e6:(⟨#[35]⟩:ByteArray)=bs [35]:=rfl
 cases hq:u.hasQ with
 | true=>
  cases hf:u.hasF with
  | true=>
   simp [h.e1,h.e3,h.m1,b8,tx,num,b6,e5,e6,l1,hq,hf]
   omega
  | false=>
   simp [h.e1,h.e3,h.m1,b8,tx,num,b6,e5,e6,l1,hq,hf]
   omega
 | false=>
  cases hf:u.hasF with
  | true=>
   simp [h.e1,h.e3,h.m1,b8,tx,num,b6,e5,e6,l1,hq,hf]
   omega
  | false=>
   simp [h.e1,h.e3,h.m1,b8,tx,num,b6,e5,e6,l1,hq,hf]
def a84 (u:LUrl):Tx:=u.path++(if u.hasQ then 63 :: u.query else [])++(if u.hasF then 35 :: u.frag else [])
theorem a8l (u:LUrl) (hs:u.Small) (pre:Tx) (hp:pre.length < 4398046511104) (st:St) (h:UT st u pre) :
 EC Tryz.prog ir262_from6 st (K:=txt (pre++a84 u)):=by
 unfold ir262_from6
 have hs':=hs
 obtain ⟨s1,s2,s3,s4,s5,s6,s7⟩:=hs
 have e:pre++a84 u=(pre++u.path)++(if u.hasQ then 63 :: u.query else [])++(if u.hasF then 35 :: u.frag else []):=by simp [a84]
 rw [e]
 simp [h.e1,h.e3,h.m1,b8,tx,num,b6,l1]
 refine ⟨by omega,?_⟩
 refine b49 u hs' (pre++u.path) (by simp;omega) _ ⟨?_,?_,?_⟩<;>simp [h.e1,h.m1,b8,tx]
theorem b5a (u:LUrl) (hs:u.Small) (hp0:-9223372036854775808≤u.port) (pre:Tx) (hp:pre.length < 4398046510080) (st:St) (h:UT st u pre) :
 EC Tryz.prog ir262_from5 st (K:=txt (pre++a0q u.port++a84 u)):=by
 unfold ir262_from5
 have e5:(⟨#[58]⟩:ByteArray)=bs [58]:=rfl
 by_cases h0:u.port=0
 · have e:pre++a0q u.port++a84 u=pre++a84 u:=by simp [a0q,h0]
   rw [e]
   simp [h.e1,h.e3,h.m1,b8,tx,num,b6,l1,h0]
   refine a8l u hs pre (by omega) _ ⟨?_,?_,?_⟩<;>simp [h.e1,h.e3,h.m1,b8,tx,num,h0]
 · have e:pre++a0q u.port++a84 u=(pre++58 :: a23 u.port)++a84 u:=by simp [a0q,h0]
   rw [e]
   simp [h.e1,h.e3,h.m1,b8,tx,num,b6,l1,h0]
   refine d7 rfl rfl (.inl rfl) (c0i u.port hp0 hs.2.2.2.2.2.2) ?_
   have hl:=c16 u.port hp0 hs.2.2.2.2.2.2
   simp [tx,num,b6,l1,e5]
   refine ⟨by omega,by omega,?_⟩
   refine a8l u hs (pre++58 :: a23 u.port) (by simp;omega) _ ⟨?_,?_,?_⟩<;>simp [h.e1,h.e3,h.m1,b8,tx,num]
theorem a8m (u:LUrl) (hs:u.Small) (hp0:-9223372036854775808≤u.port) (pre:Tx) (hp:pre.length < 3298534882300) (st:St) (h:UT st u pre) :
 EC Tryz.prog ir262_from4 st (K:=txt (pre++u.host++a0q u.port++a84 u)):=by
 unfold ir262_from4
 have hs':=hs
 obtain ⟨s1,s2,s3,s4,s5,s6,s7⟩:=hs
 simp [h.e1,h.e3,h.m1,b8,tx,num,b6,l1]
 refine ⟨by omega,?_⟩
 refine b5a u hs' hp0 (pre++u.host) (by simp;omega) _ ⟨?_,?_,?_⟩<;>simp [h.e1,h.m1,b8,tx,num]
theorem b5b (u:LUrl) (hs:u.Small) (hp0:-9223372036854775808≤u.port) (st:St) (e1:st.env 1=.ptr 1 0) (m1:st.mem 1=.box (b8 u)) :
 EC Tryz.prog ir262_from2 st (K:=txt (u.scheme++[58,47,47]++(if u.user=[] then [] else u.user++[64])++u.host++a0q u.port++a84 u)):=by
 unfold ir262_from2
 have hs':=hs
 obtain ⟨s1,s2,s3,s4,s5,s6,s7⟩:=hs
 have q1:(⟨#[58,47,47]⟩:ByteArray)=bs [58,47,47]:=rfl
 have q2:(⟨#[]⟩:ByteArray)=bs []:=rfl
 have q3:(⟨#[64]⟩:ByteArray)=bs [64]:=rfl
 by_cases hu:u.user=[]
 · rw [if_pos hu,List.append_nil]
   simp [e1,m1,b8,tx,num,b6,l1,q1,q2,q3,u5,hu]
   refine ⟨by omega,?_⟩
   refine a8m u hs' hp0 (u.scheme++[58,47,47]) (by simp;omega) _ ⟨?_,?_,?_⟩<;>simp [e1,m1,b8,tx,num,hu]
 · rw [if_neg hu]
   simp [e1,m1,b8,tx,num,b6,l1,q1,q2,q3,u5,hu]
   refine ⟨by omega,by omega,by omega,?_⟩
   refine a8m u hs' hp0 (u.scheme++[58,47,47]++(u.user++[64])) (by simp;omega) _ ⟨?_,?_,?_⟩<;>simp [e1,m1,b8,tx,num]
theorem c2h (u:LUrl) (hs:u.Small) (hp0:-9223372036854775808≤u.port):f7 Tryz.prog 262 [.val (R7 u)] (.ret (.val (tx (a0p u))) []) []:=by
 refine f9 mixed ok262 rfl (fun _=>rfl) ?_
 unfold ir262
 rw [b9]
 simp [d9,j4,l0,b7,d8,R7,tx,num,i6]
 refine d7 rfl rfl (.inl rfl) (b5g u) ?_
 have q1:(⟨#[58]⟩:ByteArray)=bs [58]:=rfl
 cases hw:W5 u.scheme with
 | true=>
  simp
  have e:a0p u=u.scheme++[58,47,47]++(if u.user=[] then [] else u.user++[64])++u.host++a0q u.port++a84 u:=by simp [a0p,hw,a84]
  rw [e]
  refine b5b u hs hp0 _ ?_ ?_<;>simp [b8,tx,num]
 | false=>
  obtain ⟨s1,s2,s3,s4,s5,s6,s7⟩:=hs
  have e:a0p u=u.scheme++[58]++u.path:=by simp [a0p,hw]
  rw [e]
  simp [tx,b6,l1,q1]
  omega
end Go.Proofs
end
section
namespace Go.KP
def a3r (t:Tx):Int×Bool:=Lib.NumEnd.casesOn (motive:=fun _=>Int×Bool) (Lib.atoiAll t) (fun v=>(v,decide (T4 t≤18) && decide (a23 v=t))) (0,false) (Lib.atoiSat t,false)
theorem b6z:∀ (u:Tx) (acc:Nat),u.all u3=true→acc*10 ^ u.length+N5 u < 1000000000000000000→Lib.parseUint10 acc u=.ok (acc*10 ^ u.length+N5 u):=by
 have hlv:∀ (u:Tx) (a:Nat),u.foldl (fun n c=>n*10+(c.toNat - 48)) a=a*10 ^ u.length+N5 u:=by
  intro u
  induction u with
  | nil=>intro a;simp [N5]
  | cons c r ih=>
   intro a
   simp only [List.foldl_cons,N5,List.length_cons]
   rw [ih,ih (0*10+(c.toNat - 48)),Nat.pow_succ]
   have:(a*10+(c.toNat - 48))*10 ^ r.length=a*(10 ^ r.length*10)+(c.toNat - 48)*10 ^ r.length:=by
    rw [Nat.add_mul];congr 1;rw [Nat.mul_assoc,Nat.mul_comm 10]
   rw [this];simp [Nat.add_assoc]
 intro u
 induction u with
 | nil=>intro acc _ _;simp [Lib.parseUint10,N5]
 | cons c r ih=>
  intro acc ha hlt
  simp only [List.all_cons,Bool.and_eq_true] at ha
  have hc:=ha.1
  simp only [u3,decide_eq_true_eq] at hc
  have e:acc*10 ^ (c :: r).length+N5 (c :: r)=(acc*10+(c.toNat - 48))*10 ^ r.length+N5 r:=by
   rw [← hlv (c :: r) acc,List.foldl_cons,hlv r]
  rw [e] at hlt ⊢
  have hp:1≤10 ^ r.length:=Nat.one_le_pow _ _ (by decide)
  have hb:acc*10+(c.toNat - 48) < 1000000000000000000:=by
   have:=Nat.le_mul_of_pos_right (acc*10+(c.toNat - 48)) hp
   omega
  rw [Lib.parseUint10.eq_2,if_pos hc,if_neg (by omega),if_neg (by omega)]
  exact ih _ ha.2 hlt
theorem b9b (t:Tx):(if (a3r t).2 then some (a3r t).1 else none)=P5 t:=by
 cases hl:P5 t with
 | some n=>
  obtain ⟨h1,h2,u,h3,h4,h5,h6⟩:=a3q hl
  have hv:N5 u < 1000000000000000000:=by
   have:=a9e u h4
   have h7:N5 u < 10 ^ 18:=Nat.lt_of_lt_of_le this (Nat.pow_le_pow_right (by omega) h5)
   have h8:(10:Nat) ^ 18=1000000000000000000:=by decide
   omega
  have hpm:Lib.parseMag u=.ok (N5 u):=by
   unfold Lib.parseMag
   rw [if_neg h3,b6z u 0 h4 (by simpa using hv)]
   simp
  have key:Lib.atoiAll t=.ok n:=by
   unfold Lib.atoiAll
   rcases h6 with ⟨rfl,hn⟩ | ⟨rfl,hn⟩
   · have e45:(45:UInt8).toNat=45:=rfl
     simp only [e45,or_true,if_true,hpm,not_true,false_and,if_false,true_and]
     rw [if_neg (by omega),hn]
   · cases hu:t with
     | nil=>exact absurd hu h3
     | cons c r=>
      have hd:u3 c=true:=by rw [hu,List.all_cons,Bool.and_eq_true] at h4;exact h4.1
      simp only [u3,decide_eq_true_eq] at hd
      have e1:¬ c.toNat=43:=by omega
      have e2:¬ c.toNat=45:=by omega
      rw [hu] at hpm hn hv
      simp only [e1,e2,or_self,if_false,not_false_eq_true,true_and,false_and]
      rw [hpm]
      dsimp only
      rw [if_neg (by omega),hn]
  unfold a3r
  rw [key]
  simp only [h1,decide_true,Bool.and_true]
  rw [decide_eq_true h2];rfl
 | none=>
  rcases hv:Lib.atoiAll t with v | _ | _<;>unfold a3r<;>rw [hv]
  · dsimp only
    by_cases h:(decide (T4 t≤18) && decide (a23 v=t))=true
    · simp only [Bool.and_eq_true,decide_eq_true_eq] at h
      have:=b3a v (by rw [h.2];exact h.1)
      rw [h.2,hl] at this
      cases this
    · rw [if_neg h]
  · rfl
  · rfl
theorem b1q {t:Tx} {v:Int} (h:Lib.atoiAll t=.ok v):-9223372036854775808≤v∧v≤9223372036854775807:=by
 unfold Lib.atoiAll at h
 split at h
 · cases h
 · dsimp only at h
   split at h
   · cases h
   · cases h
   · split at h
     · cases h
     · split at h
       · cases h
       · rename_i u _ h1 h2
         injection h with h
         split at h
         · rename_i h3
           have:¬ 9223372036854775808 < u:=fun h4=>h2 ⟨h3,h4⟩
           omega
         · rename_i h3
           have:¬ 9223372036854775808≤u:=fun h4=>h1 ⟨h3,h4⟩
           omega
theorem inum_le {t:Tx} (h:(a3r t).2=true):P5 t=some (a3r t).1:=by
 have:=b9b t
 rw [h] at this
 exact this.symm
theorem c0e {t:Tx} (h:(a3r t).2=false):P5 t=none:=by
 have:=b9b t
 rw [h] at this
 exact this.symm
end Go.KP
namespace Go.PW
open Go.RowKit
variable [GF]
theorem c0t {P:Program} {f:Nat} {rs:List RV} {vals:List Value} {p:PV} (ha:svs rs=some vals)
 (h:∀ L w,Globs L w→b1r L w→Calls P f vals.toArray w fun e w'=>(∃ v,e=.returned v∧∀ γ L,RepP γ L w' p v)∧Below w.heap.size w w'):f7 P f (rs.map .val) (.ret p []) []:=by
 intro L w vs ms hL hgl hgb hargs hnd
 obtain ⟨rfl,rfl⟩:=b3w ha hargs
 refine (h L w hgl hgb).mono fun e w' ⟨⟨v,he,hp⟩,hb⟩=>?_
 exact ⟨Outside.of_below hb,v,fun _=>undef,he,hp _ _,a8i,rfl,fun i b cells h1 h2=>by simp at h1⟩
end Go.PW
namespace Go.Proofs
open Go.PW Go.KP Go.RowKit
variable [GH]
def Y3 (t:Tx):PV:=Lib.NumEnd.casesOn (motive:=fun _=>PV) (Lib.atoiAll t) (fun v=>.tup [.val (num v),.val .nilif]) (.tup [.val (num 0),.val (.ifc 350 .opq)]) (.tup [.val (num (Lib.atoiSat t)),.val (.ifc 350 .opq)])
theorem b58 (w:World) (t:ByteArray):Below w.heap.size w (Lib.bytesWorld w 5 t):=Lib.bytesWorld_below _ _ _
theorem b2o {γ:Nat→Value} {L:Nat→Prop} {w:World} {p q:PV} {v u:Value} (h1:RepP γ L w p v) (h2:RepP γ L w q u):RepP γ L w (.tup [p,q]) (.tuple #[v,u]):=
 .tup _ _ rfl fun i hi=>by
  match i,hi with
  | 0,_=>exact h1
  | 1,_=>exact h2
theorem c_Atoi (t:Tx) (ht:t.length < 4294967281):f7 Tryz.prog 322 [.val (tx t)] (.ret (Y3 t) []) []:=by
 refine c0t (rs:=[tx t]) (vals:=[.string (bs t)]) rfl fun L w hgl hgb=>?_
 have hsz:(bs t).size=t.length:=b6 t
 rcases h:Lib.atoiAll t with v | _ | _
 · refine (Tryz.strconv_Atoi_ok (bs t) (by rw [hsz];omega) v (by rw [S7];exact h) w).mono fun e w' ⟨he,hw⟩=>?_
   refine ⟨⟨_,he,fun γ L=>?_⟩,?_⟩
   · unfold Y3
     rw [h]
     exact b2o (.val _ _ (.int _ _)) (.val _ _ .nilif)
   · rcases hw with hw | ⟨s,hw⟩
     · exact a16 hw
     · rw [hw];exact b58 _ _
 · refine (Calls.mono (Any.strconv_Atoi_syntax Tryz.laysC172 (bs t) (by rw [hsz];omega) (by rw [S7];exact h) _ w (hgl _ GH.hs).2 (.inr ⟨_,_,rfl⟩)) fun e w' ⟨N,he,_,_,hw⟩=>?_)
   refine ⟨⟨_,he,fun γ L=>?_⟩,hw⟩
   unfold Y3
   rw [h]
   exact b2o (.val _ _ (.int _ _)) (.val _ _ (.ifc _ _ _ (.opq _ rfl)))
 · refine (Tryz.strconv_Atoi_range (bs t) (by rw [hsz];omega) (by rw [S7];exact h) _ w (hgl _ GH.hr).2 (.inr ⟨_,_,rfl⟩)).mono fun e w' ⟨N,he,_,_,hw⟩=>?_
   refine ⟨⟨_,he,fun γ L=>?_⟩,hw⟩
   unfold Y3
   rw [h]
   rw [S7]
   exact b2o (.val _ _ (.int _ _)) (.val _ _ (.ifc _ _ _ (.opq _ rfl)))
def a9f (t:Tx):PV:=.tup [.val (num (a3r t).1),.val (.bool (a3r t).2)]
theorem a64 (t:Tx) (ht:t.length < 4294967281) (st:St) (h0:st.env 0=.val (tx t)) (h6:st.env 6=.val (num (T4 t)))
 (h45:(∃ v,Lib.atoiAll t=.ok v∧st.env 4=.val (num v)∧st.env 5=.val .nilif)∨(∃ n,(a3r t)=(n,false)∧st.env 4=.val (num n)∧st.env 5=.val (.ifc 350 .opq))) :
 EC Tryz.prog ir276_from4 st (K:=⟨Y9 [.t 2,.t 3] (a9f t)⟩):=by
 unfold ir276_from4 a9f
 rcases h45 with ⟨v,hv,h4,h5⟩ | ⟨n,hn,h4,h5⟩
 · have hr:=b1q hv
   have e:a3r t=(v,decide (T4 t≤18) && decide (a23 v=t)):=by unfold a3r;rw [hv]
   rw [e]
   by_cases hd:T4 t≤18
   · have hd':(T4 t:Int)≤18:=by omega
     simp [h0,h4,h5,h6,tx,num,hd']
     refine d7 rfl rfl (.inl rfl) (c23 v hr.1 hr.2) ?_
     simp [h0,h4,h5,h6,tx,num,u5,hd]
   · have hd':¬ (T4 t:Int)≤18:=by omega
     simp [h0,h4,h5,h6,tx,num,hd',hd]
 · rw [hn]
   simp [h0,h4,h5,h6,tx,num]
theorem c2k (t:Tx) (ht:t.length < 4294967281):f7 Tryz.prog 276 [.val (tx t)] (.ret (a9f t) []) []:=by
 refine f9 mixed ok276 rfl (fun _=>rfl) ?_
 unfold ir276
 rw [b9]
 have e3:(⟨#[]⟩:ByteArray)=bs []:=rfl
 have hA:=c_Atoi t ht
 simp [d9,j4,l0,b7,d8,tx]
 have hmid:∀ (a b:RV),Y3 t=.tup [.val a,.val b]→((∃ v,Lib.atoiAll t=.ok v∧a=num v∧b=.nilif)∨(∃ n,(a3r t)=(n,false)∧a=num n∧b=.ifc 350 .opq)):=by
  intro a b h
  rcases hv:Lib.atoiAll t with v | _ | _
  · have e:Y3 t=.tup [.val (num v),.val .nilif]:=by unfold Y3;rw [hv]
    rw [e] at h
    simp only [PV.tup.injEq,List.cons.injEq,PV.val.injEq] at h
    exact .inl ⟨v,rfl,h.1.symm,h.2.1.symm⟩
  · have e:Y3 t=.tup [.val (num 0),.val (.ifc 350 .opq)]:=by unfold Y3;rw [hv]
    have e2:a3r t=(0,false):=by unfold a3r;rw [hv]
    rw [e] at h
    simp only [PV.tup.injEq,List.cons.injEq,PV.val.injEq] at h
    exact .inr ⟨0,e2,h.1.symm,h.2.1.symm⟩
  · have e:Y3 t=.tup [.val (num (Lib.atoiSat t)),.val (.ifc 350 .opq)]:=by unfold Y3;rw [hv]
    have e2:a3r t=(Lib.atoiSat t,false):=by unfold a3r;rw [hv]
    rw [e] at h
    simp only [PV.tup.injEq,List.cons.injEq,PV.val.injEq] at h
    exact .inr ⟨Lib.atoiSat t,e2,h.1.symm,h.2.1.symm⟩
 obtain ⟨a,b,hab⟩:∃ a b,Y3 t=.tup [.val a,.val b]:=by
  unfold Y3
  rcases Lib.atoiAll t with v | _ | _<;>exact ⟨_,_,rfl⟩
 have hm:=hmid a b hab
 rw [hab] at hA
 refine V4 rfl rfl (.inl rfl) hA ?_
 cases t with
 | nil=>
  simp [tx,b6,e3,u5]
  refine a64 [] ht _ ?_ ?_ ?_
  · simp [tx]
  · simp [num,T4]
  · rcases hm with ⟨v,h1,rfl,rfl⟩ | ⟨n,h1,rfl,rfl⟩
    · exact .inl ⟨v,h1,by simp,by simp⟩
    · exact .inr ⟨n,h1,by simp,by simp⟩
 | cons c r=>
  have hr:r.length < 4294967280:=by simp at ht;omega
  have e0:(0:Int) < ((r.length:Int)+1):=by omega
  have fin:∀ st':St,st'.env 0=.val (tx (c :: r))→st'.env 6=.val (num (T4 (c :: r)))→st'.env 4=.val a→st'.env 5=.val b→EC Tryz.prog ir276_from4 st' (K:=⟨Y9 [.t 2,.t 3] (a9f (c :: r))⟩):=fun st' q0 q6 q4 q5=>by
   refine a64 (c :: r) ht st' q0 q6 ?_
   rcases hm with ⟨v,h1,rfl,rfl⟩ | ⟨n,h1,rfl,rfl⟩
   · exact .inl ⟨v,h1,q4,q5⟩
   · exact .inr ⟨n,h1,q4,q5⟩
  by_cases hc:c=45
  · have e1:((c.toNat:Int)=45):=by rw [hc];rfl
    have hw:IntKind.i64.wrap ((r.length:Int)+1 - 1)=(r.length:Int):=by rw [wrap_i64 (by omega) (by omega)];omega
    simp [tx,b6,e3,u5,f6,e0,e1,hw]
    refine fin _ ?_ ?_ ?_ ?_
    · simp [tx]
    · simp [num,T4,hc];exact wrap_i64 (by omega) (by omega)
    · simp
    · simp
  · have e1:¬ ((c.toNat:Int)=45):=fun h=>hc (UInt8.toNat_inj.1 (by simp;omega))
    simp [tx,b6,e3,u5,f6,e0,e1]
    refine fin _ ?_ ?_ ?_ ?_
    · simp [tx]
    · simp [num,T4,hc]
    · simp
    · simp
end Go.Proofs
end
section
namespace Go.Proofs
open Go.PW Go.KP Go.RowKit
def Y4 (t:Tx) (k j:Nat):UInt8:=if j < k then b40 (t.getD j 0) else t.getD j 0
def a6t (t:Tx) (B k:Nat) (wr:World):Prop:=
 (∀ j,j < t.length→wr.cell? ⟨B,j,none⟩=some (.int .u8 ((Y4 t k j).toNat:Int)))∧(∀ j,j < t.length→wr.frozen? ⟨B,j,none⟩=false)
theorem b27 (t:Tx) (w:World) (cap:Nat):a6t t w.heap.size 0 (w.alloc (.cells (bytesRow (bs t) cap) 5 ((bytesRow (bs t) cap).size,(bytesRow (bs t) cap).size+1))):=by
 have hsz:(bs t).data.size=t.length:=by simp [bs]
 refine ⟨fun j hj=>?_,fun j hj=>?_⟩
 · rw [World.cell?_alloc_mark,bytesRow_at (bs t) cap j (by omega)]
   simp [Y4,bs,hj]
 · rw [World.frozen?_alloc_mark]
   have:t.length≤(bytesRow (bs t) cap).size:=by simp [bytesRow,bs]
   have h2:¬ (bytesRow (bs t) cap).size≤j:=by omega
   simp [h2]
theorem b7b {t:Tx} {B k:Nat} {wr:World} (hk:k < t.length) (h:a6t t B k wr) (h1:(65:Int)≤((Y4 t k k).toNat:Int)) (h2:((Y4 t k k).toNat:Int)≤90) :
 a6t t B (k+1) (wr.setCell ⟨B,k,none⟩ (.int .u8 (((Y4 t k k).toNat:Int)+32))):=by
 have e0:Y4 t k k=t.getD k 0:=by simp [Y4]
 rw [e0] at h1 h2 ⊢
 refine ⟨fun j hj=>?_,fun j hj=>by rw [World.frozen?_setCell];exact h.2 j hj⟩
 by_cases e:j=k
 · subst e
   rw [World.cell?_setCell_same _ _ _ (h.1 j hj)]
   have:Y4 t (j+1) j=t.getD j 0+32:=by
    simp only [Y4,Nat.lt_succ_self,if_true,b40]
    rw [if_pos (by omega)]
   rw [this]
   congr 2
   rw [UInt8.toNat_add]
   have e32:(32:UInt8).toNat=32:=rfl
   rw [e32]
   omega
 · rw [World.cell?_setCell_other _ _ _ _ (by simp<;>omega),h.1 j hj]
   have:Y4 t (k+1) j=Y4 t k j:=by
    unfold Y4
    by_cases hjk:j < k
    · rw [if_pos hjk,if_pos (by omega)]
    · rw [if_neg hjk,if_neg (by omega)]
   rw [this]
theorem a8k {t:Tx} {B k:Nat} {wr:World} (h:a6t t B k wr) (h1:¬ ((65:Int)≤((Y4 t k k).toNat:Int)∧((Y4 t k k).toNat:Int)≤90)):a6t t B (k+1) wr:=by
 have e0:Y4 t k k=t.getD k 0:=by simp [Y4]
 rw [e0] at h1
 refine ⟨fun j hj=>?_,h.2⟩
 rw [h.1 j hj]
 have:Y4 t (k+1) j=Y4 t k j:=by
  unfold Y4
  by_cases hjk:j < k
  · rw [if_pos hjk,if_pos (by omega)]
  · by_cases e:j=k
    · subst e
      rw [if_pos (by omega),if_neg (by omega)]
      unfold b40
      rw [if_neg (by omega)]
    · rw [if_neg hjk,if_neg (by omega)]
 rw [this]
theorem b95 {t:Tx} {j:Nat} (hj:j < (B2 t).length):Y4 t t.length j=(B2 t)[j]:=by
 have hj':j < t.length:=by simpa [B2] using hj
 unfold Y4
 rw [if_pos hj',a2f _ _ _ hj']
 simp [B2]
theorem b4z {t:Tx} {B:Nat} {wr:World} (hR:a6t t B t.length wr) (cap:Nat):(convert 195 9 (.slice (some ⟨B,0,none⟩) t.length cap)).run Tryz.prog wr=.ok (.string (bs (B2 t))) wr:=by
 have hll:(B2 t).length=t.length:=by simp [B2]
 have hback:=run_convert_bytes_back (P:=Tryz.prog) wr 195 9 5 ⟨B,0,none⟩ cap (B2 t) Tryz.underlying195 Tryz.underlying5 Tryz.underlying9 (fun j hj=>by
  have h1:=hR.1 j (by omega)
  rw [b95 hj] at h1
  have e:(Addr.add ⟨B,0,none⟩ j)=⟨B,j,none⟩:=by simp [Addr.add];omega
  rw [e]
  exact h1)
 rw [hll] at hback
 exact hback
set_option maxRecDepth 1000000 in
theorem b7a (t:Tx) (w:World) (hl:t.length < 4294967281) :
 Calls Tryz.prog 272 #[.string (bs t)] w fun e w'=>e=.returned (.string (bs (B2 t)))∧Below w.heap.size w w':=by
 have hsz:(bs t).size=t.length:=b6 t
 have hconv:=run_bytes_of_string (P:=Tryz.prog) w 9 195 5 (bs t) Tryz.underlying9 Tryz.underlying195 Tryz.underlying5
 have hll:(B2 t).length=t.length:=by simp [B2]
 go_enter Tryz.func272,Tryz.ntmps272
 go_wp2
 go_loopw [10] (fun i wr=>∃ k:Nat,k≤t.length∧i=.int .i64 k∧a6t t w.heap.size k wr∧Below w.heap.size w wr)
  (fun i _=>t.length - (intOf i).toNat)
 case atStart=>
  refine ⟨0,Nat.zero_le _,rfl,?_,?_⟩
  · have:=b27 t w (grownCap w t.length 0 5)
    exact ⟨this.1,this.2⟩
  · exact ((Below.refl _ w).alloc (Nat.le_refl _) _).drew
 case round=>
  obtain ⟨k,hk,rfl,hR,hnx⟩:=hrel
  have hck:k < t.length→wr.cell? ⟨w.heap.size,k,none⟩=some (.int .u8 ((Y4 t k k).toNat:Int)):=fun h=>hR.1 k h
  have hfk:k < t.length→wr.frozen? ⟨w.heap.size,k,none⟩=false:=fun h=>hR.2 k h
  go_wp2
  · refine ⟨⟨k+1,by omega,by first | rfl | simp,b7b (by assumption) hR (by assumption) (by assumption),hnx.setCell (Nat.le_refl _) _⟩,?_⟩
    simp [intOf];omega
  · refine ⟨⟨k+1,by omega,by first | rfl | simp,a8k hR (by omega),hnx⟩,?_⟩
    simp [intOf];omega
  · refine ⟨⟨k+1,by omega,by first | rfl | simp,a8k hR (by omega),hnx⟩,?_⟩
    simp [intOf];omega
  · have hkn:k=t.length:=by omega
    subst hkn
    have hback':=b4z (wr:=wr) hR (grownCap w t.length 0 5)
    rw [hback']
    go_wp2
    go_ret
    exact ⟨rfl,hnx⟩
section
variable [GF]
theorem b9d (t:Tx) (hl:t.length < 4294967281):f7 Tryz.prog 272 [.val (tx t)] (.ret (.val (tx (B2 t))) []) []:=
 a0a (rs:=[tx t]) (vals:=[.string (bs t)]) (v:=.string (bs (B2 t))) rfl rfl fun L w hgl hgb=>b7a t w hl
end
end Go.Proofs
end
section
namespace Go.Proofs
open Go.PW Go.KP
variable [GH]
theorem b63 {K:Kx (PExit→St→Prop)} (t:Tx) (i n:Nat) (c:UInt8) (b:Bool) (st:St) (e0:st.env 0=.val (tx t)) (e3:st.env 3=.val (num i)) (e4:st.env 4=.val (rvb c)) (e5:st.env 5=.val (.bool b)) (e11:st.env 11=.val (num n)) (e12:st.env 12=.val (num i))
 (hgood:(b || (!decide (i=0) && u3 c))=true→∀ st':St,st'.env 0=.val (tx t)→st'.env 11=.val (num n)→st'.env 12=.val (num i)→K.k .normal st')
 (U4:(b || (!decide (i=0) && u3 c))=false→∀ st':St,st'.env 2=.val (.bool false)→K.k .ret st') :
 EC Tryz.prog ir185_s36 st (K:=K):=by
 unfold ir185_s36
 cases b with
 | true=>
  simp [e5]
  exact hgood (by simp) _ (by simp [e0]) (by simp [e11]) (by simp [e12])
 | false=>
  by_cases h0:i=0
  · subst h0
    simp [e5,e3,e4,num]
    exact U4 (by simp) _ (by simp)
  · have f1:((c.toNat:Int) < 48)↔c.toNat < 48:=by omega
    have f2:((57:Int) < c.toNat)↔57 < c.toNat:=by omega
    by_cases h1:c.toNat < 48
    · simp [e5,e3,e4,num,rvb,h0,f1,h1]
      exact U4 (by simp [u3];omega) _ (by simp)
    · by_cases h2:57 < c.toNat
      · simp [e5,e3,e4,num,rvb,h0,f1,h1,f2,h2]
        exact U4 (by simp [u3];omega) _ (by simp)
      · simp [e5,e3,e4,num,rvb,h0,f1,h1,f2,h2]
        exact hgood (by simp [u3,h0];omega) _ (by simp [e0]) (by simp [e11,num]) (by simp [e12,num])
theorem c2n (t:Tx) (ht:t.length < 1099511627776):f7 Tryz.prog 185 [.val (tx t)] (.ret (.val (.bool (a0d t))) []) []:=by
 refine f9 mixed ok185 rfl (fun _=>rfl) ?_
 unfold ir185
 rw [b9]
 simp [d9,j4,l0,b7,d8,tx,b6]
 refine d7 rfl rfl (.inl rfl) (a26 t.length 1 12) ?_
 by_cases hlen:1≤t.length∧t.length≤12
 rotate_left
 · rw [show decide ((1:Int)≤t.length∧(t.length:Int)≤12)=false from decide_eq_false (by omega)]
   have:a0d t=false:=by unfold a0d;rw [decide_eq_false hlen];rfl
   simp [this]
 rw [show decide ((1:Int)≤t.length∧(t.length:Int)≤12)=true from decide_eq_true (by omega)]
 have hw:a0d t=R5 X1 a0z t:=by unfold a0d;rw [decide_eq_true hlen];rfl
 simp [b6]
 refine l4 (X:=Nat) (fun i=>⟨u0 [(0,.val (tx t)),(11,.val (num t.length)),(12,.val (num i))],u4 []⟩) (fun i=>i≤t.length∧R5 X1 a0z (t.take i)=true) (fun i=>t.length - i) 0 (Le.mk _ _ ?_ ?_) ?_ ?_
 · simp [upd,tx,num]
 · simp
 · simp [R5]
 · rintro i ⟨hi,hall⟩
   simp [num]
   refine i7 (fun h3=>?_) (fun h3=>?_)
   · have hstep:=a0s (p:=X1) (q:=a0z) (fun _ h=>a2e h) t i h3
     rw [hall,Bool.true_and] at hstep
     have U4:=Z1 (p:=X1) (q:=a0z) t i h3
     have e1:((97:Int)≤t[i].toNat)↔97≤t[i].toNat:=by omega
     have e2:((t[i].toNat:Int)≤122)↔t[i].toNat≤122:=by omega
     have e3:((65:Int)≤t[i].toNat)↔65≤t[i].toNat:=by omega
     have e4:((t[i].toNat:Int)≤90)↔t[i].toNat≤90:=by omega
     have e5:((t[i].toNat:Int)=95)↔t[i].toNat=95:=by omega
     have key:∀ (b:Bool) (st':St),b=X1 t[i]→st'.env 0=.val (tx t)→st'.env 3=.val (num i)→st'.env 4=.val (rvb t[i])→st'.env 5=.val (.bool b)→st'.env 11=.val (num t.length)→st'.env 12=.val (num i)→True:=fun _ _ _ _ _ _ _ _ _=>trivial
     have hg:(X1 t[i] || (!decide (i=0) && u3 t[i]))=true→(if i=0 then X1 t[i] else a0z t[i])=true:=fun h=>by
      by_cases h0:i=0
      · subst h0;simpa using h
      · simpa [h0,a0z] using h
     have hb:(X1 t[i] || (!decide (i=0) && u3 t[i]))=false→(if i=0 then X1 t[i] else a0z t[i])=false:=fun h=>by
      by_cases h0:i=0
      · subst h0;simpa using h
      · simpa [h0,a0z] using h
     by_cases h1:97≤t[i].toNat<;>by_cases h2:t[i].toNat≤122<;>by_cases h4:65≤t[i].toNat<;>by_cases h5:t[i].toNat≤90<;>by_cases h6:t[i].toNat=95<;>first
      | (exfalso;omega)
      | (simp [num,tx,b6,f6,h3,e1,e2,e3,e4,e5,h1,h2,h4,h5,h6]
         refine b63 t i t.length t[i] (X1 t[i]) _ (by simp [tx]) (by simp [num]) (by simp [rvb,h6]) (by simp [X1,v6,isUp,e1,e2,e3,e4,e5,h1,h2,h4,h5,h6]) (by simp [num]) (by simp [num]) (fun hh st' q0 q11 q12=>?_) (fun hh st' q2=>?_)
         · simp [q12,num]
           refine LoopNext.mk (i+1) ⟨by omega,by rw [hstep];exact hg hh⟩ (by omega) (Le.mk _ _ ?_ ?_)
           · simp [q0,q11,num];exact wrap_i64 (by omega) (by omega)
           · simp
         · have:a0d t=false:=by rw [hw];exact U4 (hb hh)
           simp [q2,this])
   · have e:i=t.length:=by omega
     subst e
     rw [List.take_length] at hall
     simp [hw,hall]
end Go.Proofs
end
