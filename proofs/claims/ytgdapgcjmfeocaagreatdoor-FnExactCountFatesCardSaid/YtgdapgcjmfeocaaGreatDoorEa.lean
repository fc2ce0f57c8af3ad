/- Ea: merged out of KLb, KIa, KIb, KIc, KId, KIe, KIt. -/
import Derived.Test.YtgdapgcjmfeocaaGreatDoorAc
import Derived.Test.YtgdapgcjmfeocaaGreatDoorShelf
import Derived.Test.YtgdapgcjmfeocaaGreatDoorCa
import Derived.Test.YtgdapgcjmfeocaaGreatDoorBa
import Derived.Test.YtgdapgcjmfeocaaGreatDoorProg
import Derived.WalkKit
import Derived.Laws.IdiomStrings
set_option linter.unusedSectionVars false
set_option linter.unusedSimpArgs false
set_option linter.unusedVariables false
set_option maxRecDepth 100000
section
namespace Go.KP
theorem a73 (s:Tx) (c:UInt8):Lib.indexByte s c=if c∈s then (M8 s c:Int) else -1:=by
 induction s with
 | nil=>simp [Lib.indexByte]
 | cons b l ih=>
  unfold Lib.indexByte
  by_cases h:b=c
  · subst h
    simp [M8,List.findIdx_cons]
  · have h':(b == c)=false:=by simpa using h
    have h2:M8 (b :: l) c=M8 l c+1:=by simp [M8,List.findIdx_cons,h']
    rw [h',ih,h2]
    by_cases hm:c∈l
    · have hm':c∈b :: l:=List.mem_cons_of_mem _ hm
      rw [if_pos hm,if_pos hm']
      have:(((M8 l c:Nat):Int) == -1)=false:=by rw [beq_eq_false_iff_ne];omega
      rw [this];simp
    · have hm':¬ c∈b :: l:=by simp [hm];exact fun e=>h e.symm
      rw [if_neg hm,if_neg hm']
      simp
theorem d1h (s:Tx) (c:UInt8):Lib.cut s [c]=(k6 s c,G5 s c,decide (c∈s)):=by
 unfold Lib.cut
 rw [Lib.index_one,a73]
 by_cases h:c∈s
 · rw [if_pos h,if_pos (by omega)]
   simp [k6,G5,h]
 · rw [if_neg h,if_neg (by omega),a1l h,a94 h]
   simp [h]
theorem a8i (s wo:Tx):Lib.containsAny s wo=R6 s wo:=by
 unfold Lib.containsAny
 induction s with
 | nil=>simp [Lib.indexAny,R6]
 | cons b l ih=>
  have e:R6 (b :: l) wo=(decide (b∈wo) || R6 l wo):=rfl
  rw [e,← ih]
  rw [show Lib.indexAny (b :: l) wo=if wo.contains b then 0 else if Lib.indexAny l wo == -1 then -1 else Lib.indexAny l wo+1 from rfl]
  have hc:wo.contains b=decide (b∈wo):=by rw [Bool.eq_iff_iff];simp
  have hge:=Lib.indexAny_ge wo l
  rw [hc]
  by_cases h:b∈wo
  · simp [h]
  · simp only [h,decide_false,Bool.false_or,if_false,Bool.false_eq_true]
    by_cases h2:Lib.indexAny l wo=-1
    · simp [h2]
    · have h2':(Lib.indexAny l wo == -1)=false:=by simpa using h2
      rw [h2']
      simp only [Bool.false_eq_true,if_false]
      rw [decide_eq_true (by omega),decide_eq_true (by omega)]
theorem a8g (n:Nat):Lib.decDigits n=a2z n:=by
 induction n using Nat.strongRecOn with
 | ind n ih=>
  rw [Lib.decDigits]
  by_cases h:n < 10
  · rw [dif_pos h,a1y h]
  · rw [dif_neg h,a4q h,ih _ (by omega)]
theorem c7m (n:Int):Lib.itoa n=a6i n:=by
 unfold Lib.itoa a6i
 split
 · rw [a8g];congr 2;omega
 · rw [a8g]
end Go.KP
namespace Go.Proofs
open Go.PW Go.KP Go.RowKit
class GH extends GF where
 m:Int
 hm:(0,0,Value.int .i64 m)∈gs
 T10:TypeId
 z10:Nat×Nat
 h10:(3,Obj.cells (Lib.pow10Tab.map fun z=>Value.int .u64 z).toArray T10 z10)∈bs
 ts:TypeId
 ps:Value
 hs:(1,0,Value.iface ts ps)∈gs
 tr:TypeId
 pr:Value
 hr:(2,0,Value.iface tr pr)∈gs
variable [GH]
theorem Y9 (t:Tx):(bs t).data.toList=t:=by simp [bs]
theorem b3b {B:Nat} (w:World) (n:Nat):Below B w (w.drewN n):=⟨rfl,rfl,rfl,Nat.le_refl _,fun _ _=>rfl⟩
theorem c5m {B:Nat} (w:World) (os:Array Obj) (h:B≤w.heap.size):Below B w (Go.Sort.grow w os):=
 ⟨rfl,rfl,rfl,by simp [Go.Sort.grow],fun k hk=>by simp [Go.Sort.grow,Array.getElem?_append,Nat.lt_of_lt_of_le hk h]⟩
theorem b56 (t:Tx) (c:UInt8) (ht:t.length < 4294967281):d8 Tryz.prog 238 [.val (tx t),.val (tx [c])] (.ret (.tup [.val (tx (k6 t c)),.val (tx (G5 t c)),.val (.bool (decide (c∈t)))]) []) []:=by
 refine b51 (rs:=[tx t,tx [c]]) (qs:=[tx (k6 t c),tx (G5 t c),.bool (decide (c∈t))]) (vals:=[.string (bs t),.string (bs [c])]) (us:=[.string (bs (k6 t c)),.string (bs (G5 t c)),.bool (decide (c∈t))]) rfl rfl fun L w hgl hgb=>?_
 refine (Tryz.strings_Cut (bs t) (bs [c]) GH.m w (by rw [b9];exact ht) (hgl _ GH.hm).2).mono fun e w' ⟨he,n,hw⟩=>?_
 rw [Y9,Y9,d1h] at he
 exact ⟨he,hw ▸ b3b w n⟩
theorem c2t (t p:Tx):d8 Tryz.prog 241 [.val (tx t),.val (tx p)] (.ret (.tup [.val (tx (if p.isPrefixOf t then t.drop p.length else t)),.val (.bool (p.isPrefixOf t))]) []) []:=by
 refine b51 (rs:=[tx t,tx p]) (qs:=[tx (if p.isPrefixOf t then t.drop p.length else t),.bool (p.isPrefixOf t)]) (vals:=[.string (bs t),.string (bs p)]) (us:=[.string (bs (if p.isPrefixOf t then t.drop p.length else t)),.bool (p.isPrefixOf t)]) rfl rfl fun L w hgl hgb=>?_
 refine (Tryz.strings_CutPrefix (bs t) (bs p) w).mono fun e w' ⟨he,hw⟩=>?_
 rw [Y9,Y9] at he
 exact ⟨he,a5e hw⟩
theorem c2r (t:Tx) (c:UInt8):d8 Tryz.prog 234 [.val (tx t),.val (rvb c)] (.ret (.val (num (if c∈t then (M8 t c:Int) else -1))) []) []:=by
 refine a2r (rs:=[tx t,rvb c]) (vals:=[.string (bs t),.int .u8 c.toNat]) (v:=.int .i64 (if c∈t then (M8 t c:Int) else -1)) rfl rfl fun L w hgl hgb=>?_
 refine (Tryz.strings_IndexByte (bs t) c.toNat w).mono fun e w' ⟨he,hw⟩=>?_
 rw [Y9,Lib.byte_back,a73] at he
 exact ⟨he,a5e hw⟩
theorem c2s (t p:Tx):d8 Tryz.prog 250 [.val (tx t),.val (tx p)] (.ret (.val (.bool (p.isPrefixOf t))) []) []:=by
 refine a2r (rs:=[tx t,tx p]) (vals:=[.string (bs t),.string (bs p)]) (v:=.bool (p.isPrefixOf t)) rfl rfl fun L w hgl hgb=>?_
 refine (Tryz.strings_HasPrefix (bs t) (bs p) w).mono fun e w' ⟨he,hw⟩=>?_
 rw [Y9,Y9] at he
 exact ⟨he,a5e hw⟩
theorem c5k (t:Tx) (c:UInt8):d8 Tryz.prog 251 [.val (tx t),.val (tx [c])] (.ret (.val (.bool (decide (c∈t)))) []) []:=by
 refine a2r (rs:=[tx t,tx [c]]) (vals:=[.string (bs t),.string (bs [c])]) (v:=.bool (decide (c∈t))) rfl rfl fun L w hgl hgb=>?_
 refine (Tryz.strings_Contains_one (bs t) c w).mono fun e w' ⟨he,hw⟩=>?_
 rw [Y9,a73] at he
 have e1:decide (0≤(if c∈t then (M8 t c:Int) else -1))=decide (c∈t):=by
  by_cases h:c∈t
  · rw [if_pos h,decide_eq_true h,decide_eq_true (by omega)]
  · rw [if_neg h,decide_eq_false h];rfl
 rw [e1] at he
 exact ⟨he,a5e hw⟩
theorem b3c {t:Tx} (h:T7 t=true):∀ (j:Nat) b,(bs t).data.toList[j]?=some b→b.toNat < 128:=fun j b hb=>by
 rw [Y9] at hb
 unfold T7 at h
 rw [List.all_eq_true] at h
 have:=h b (List.mem_of_getElem? hb)
 simp at this
 omega
theorem a9u (t wo:Tx) (ht:t.length < 4294967281) (hw:wo.length < 4294967281) (h1:T7 t=true) (h2:T7 wo=true):d8 Tryz.prog 161 [.val (tx t),.val (tx wo)] (.ret (.val (.bool (R6 t wo))) []) []:=by
 refine a2r (rs:=[tx t,tx wo]) (vals:=[.string (bs t),.string (bs wo)]) (v:=.bool (R6 t wo)) rfl rfl fun L w hgl hgb=>?_
 refine (Tryz.strings_ContainsAny_laid (bs t) (bs wo) w (by rw [b9];exact ht) (by rw [b9];exact hw) (b3c h1) (b3c h2)).mono fun e w' ⟨he,hw⟩=>?_
 rw [Y9,Y9,a8i] at he
 exact ⟨he,hw⟩
theorem d1o (n:Int) (h0:-9223372036854775808≤n) (h1:n≤9223372036854775807):d8 Tryz.prog 244 [.val (num n)] (.ret (.val (tx (a6i n))) []) []:=by
 refine a2r (rs:=[num n]) (vals:=[.int .i64 n]) (v:=.string (bs (a6i n))) rfl rfl fun L w hgl hgb=>?_
 have htab:Lib.TabIs Tryz.prog w "internal/strconv.uint64pow10" .u64 Lib.pow10Tab:=by
  unfold Lib.TabIs World.var?
  have e:Tryz.prog.globalNamed "internal/strconv.uint64pow10" = some 3:=by kernel_rfl
  rw [e]
  simp only [Option.bind_some]
  rw [(hgb _ GH.h10).2]
 refine (Tryz.strconv_Itoa n h0 h1 w htab).mono fun e w' ⟨he,k,os,hw⟩=>?_
 rw [c7m] at he
 exact ⟨he,hw ▸ (b3b w k).trans (c5m _ _ (Nat.le_refl _))⟩
end Go.Proofs
end
section
namespace Go.Proofs
open Go.PW Go.KP
attribute [local simp] RV.cells RV.one PV.cells PV.solid PV.one G3 i7 L8 L5 RV.ofCells elems PV.killL
section
variable [GF]
theorem R4 (a lo hi:Int):d8 Tryz.prog 60 [.val (num a),.val (num lo),.val (num hi)] (.ret (.val (.bool (decide (lo≤a∧a≤hi)))) []) []:=by
 refine f6 mixed ok60 rfl (fun _=>rfl) ?_
 unfold ir60
 rw [b6]
 by_cases h:lo≤a
 · simp [d9,i6,j9,b8,d7,num,h]
 · simp [d9,i6,j9,b8,d7,num,h]
theorem i_isNow (n:Int):d8 Tryz.prog 81 [.val (num n)] (.ret (.val (.bool (decide (0≤n∧n≤1000000)))) []) []:=by
 refine f6 mixed ok81 rfl (fun _=>rfl) ?_
 unfold ir81
 rw [b6]
 simp [d9,i6,j9,b8,d7,num]
 refine b7 rfl rfl (.inl rfl) (R4 n 0 1000000) ?_
 simp
theorem b5b (b:Bool) (n:Int):d8 Tryz.prog 59 [.val (.bool b),.val (num n)] (.ret (.val (num (if b then 0 else n))) []) []:=by
 refine f6 mixed ok59 rfl (fun _=>rfl) ?_
 unfold ir59
 rw [b6]
 cases b<;>simp [d9,i6,j9,b8,d7,num]
theorem i_long (t:Tx):d8 Tryz.prog 225 [.val (tx t)] (.ret (.val (num (if t.length≤65536 then 0 else 2))) []) []:=by
 refine f6 mixed ok225 rfl (fun _=>rfl) ?_
 unfold ir225
 rw [b6]
 have e:decide ((t.length:Int)≤65536)=decide (t.length≤65536):=by
  by_cases h:t.length≤65536
  · rw [decide_eq_true h,decide_eq_true (by omega)]
  · rw [decide_eq_false h,decide_eq_false (by omega)]
 simp [d9,i6,j9,b8,d7,tx,b9,e]
 refine b7 rfl rfl (.inl rfl) (b5b (decide (t.length≤65536)) 2) ?_
 simp [num]
theorem b18 (c:UInt8):d8 Tryz.prog 196 [.val (rvb c)] (.ret (.val (.bool (P5 c))) []) []:=by
 refine f6 mixed ok196 rfl (fun _=>rfl) ?_
 unfold ir196
 rw [b6]
 have e1:((97:Int)≤c.toNat)↔97≤c.toNat:=by omega
 have e2:((c.toNat:Int)≤122)↔c.toNat≤122:=by omega
 by_cases h:97≤c.toNat
 · simp [d9,i6,j9,b8,d7,rvb,P5,h,e1,e2]
 · simp [d9,i6,j9,b8,d7,rvb,P5,h,e1,e2]
theorem b7o (c:UInt8):d8 Tryz.prog 257 [.val (rvb c)] (.ret (.val (.bool (P2 c))) []) []:=by
 refine f6 mixed ok257 rfl (fun _=>rfl) ?_
 unfold ir257
 rw [b6]
 have e1:((48:Int)≤c.toNat)↔48≤c.toNat:=by omega
 have e2:((c.toNat:Int)≤57)↔c.toNat≤57:=by omega
 by_cases h:48≤c.toNat
 · simp [d9,i6,j9,b8,d7,rvb,P2,h,e1,e2]
 · simp [d9,i6,j9,b8,d7,rvb,P2,h,e1,e2]
theorem c1l (u:LUrl):d8 Tryz.prog 201 [.val (X0 u)] (.ret (.val (.bool (a0n u.scheme))) []) []:=by
 refine f6 mixed ok201 rfl (fun _=>rfl) ?_
 unfold ir201
 rw [b6]
 have e1:(⟨#[104,116,116,112]⟩:ByteArray)=bs a7c:=rfl
 have e2:(⟨#[104,116,116,112,115]⟩:ByteArray)=bs a9z:=rfl
 by_cases h:u.scheme=a7c
 · simp [d9,i6,j9,b8,d7,X0,tx,num,e1,e2,L2,a0n,h]
 · by_cases h':u.scheme=a9z
   · simp [d9,i6,j9,b8,d7,X0,tx,num,e1,e2,L2,a0n,h',show ¬ a9z=a7c by decide]
   · simp [d9,i6,j9,b8,d7,X0,tx,num,e1,e2,L2,a0n,h,h']
theorem c6f (t:Tx):d8 Tryz.prog 243 [.val (tx t)] (.ret (.val (num (a0s t))) []) []:=by
 refine f6 mixed ok243 rfl (fun _=>rfl) ?_
 unfold ir243
 rw [b6]
 have e1:(⟨#[104,116,116,112]⟩:ByteArray)=bs a7c:=rfl
 by_cases h:t=a7c
 · simp [d9,i6,j9,b8,d7,tx,e1,L2,a0s,h,num]
 · simp [d9,i6,j9,b8,d7,tx,e1,L2,a0s,h,num]
def a43 (l:List Int):Int:=(l.find? (fun c=>c != 0)).getD 0
theorem c7h {c:Int} (h:c≠0) (r:List Int):a43 (c :: r)=c:=by simp [a43,h]
theorem c1a (r:List Int):a43 (0 :: r)=a43 r:=by simp [a43]
theorem i_first (l:List Int) (hl:l.length < 1099511627776):d8 Tryz.prog 58 [.val (.list 1 (l.map num))] (.ret (.val (num (a43 l))) []) []:=by
 refine f6 mixed ok58 rfl (fun _=>rfl) ?_
 unfold ir58
 rw [b6]
 simp [d9,i6,j9,b8,d7,num]
 refine j8 (X:=Nat) (fun i=>⟨t6 [(5,.val (.list 1 (l.map num))),(6,.val (num l.length)),(7,.val (num i))],t8 []⟩) (fun i=>i≤l.length∧a43 l=a43 (l.drop i)) (fun i=>l.length - i) 0 (Le.mk _ _ ?_ ?_) ?_ ?_
 · simp [upd,num]
 · simp
 · simp
 · rintro i ⟨hi,hinv⟩
   simp [num]
   refine f8 (fun h1=>?_) (fun h1=>?_)
   · have e:(l.map num)[i]?.getD RV.nilptr=num l[i]:=by simp [List.getElem?_eq_getElem h1]
     have e2:(l.map num)[i]'(by simpa using h1)=num l[i]:=by simp
     rw [List.drop_eq_getElem_cons h1] at hinv
     by_cases h0:l[i]=0
     · simp [num,h1,h0]
       refine LoopNext.mk (i+1) ⟨by omega,?_⟩ (by omega) (Le.mk _ _ ?_ ?_)
       · rw [hinv,h0,c1a]
       · simp [num];exact wrap_i64 (by omega) (by omega)
       · simp
     · simp [num,h1,h0]
       rw [hinv,c7h h0]
   · have e:i=l.length:=by omega
     subst e
     simp [num]
     rw [hinv];simp [a43]
theorem c4i (t:Tx) (ht:t.length < 1099511627776):d8 Tryz.prog 248 [.val (tx t)] (.ret (.val (.bool (T7 t))) []) []:=by
 refine f6 mixed ok248 rfl (fun _=>rfl) ?_
 unfold ir248
 rw [b6]
 simp [d9,i6,j9,b8,d7,tx,b9]
 refine j8 (X:=Nat) (fun i=>⟨t6 [(0,.val (tx t)),(5,.val (num t.length)),(6,.val (num i))],t8 []⟩) (fun i=>i≤t.length∧T7 (t.take i)=true) (fun i=>t.length - i) 0 (Le.mk _ _ ?_ ?_) ?_ ?_
 · simp [upd,num,tx]
 · simp
 · simp [T7]
 · rintro i ⟨hi,hinv⟩
   simp [num,tx]
   refine f8 (fun h1=>?_) (fun h1=>?_)
   · simp [tx,num,b9,j5,h1]
     have hw:IntKind.i64.wrap (t[i].toNat:Int)=(t[i].toNat:Int):=wrap_i64 (by omega) (by have:=t[i].toNat_lt;omega)
     refine b7 rfl rfl (.inl rfl) (by rw [hw];exact R4 (t[i].toNat:Int) 33 126) ?_
     have e:decide ((33:Int)≤(t[i].toNat:Int)∧(t[i].toNat:Int)≤126)=decide (33≤t[i].toNat∧t[i].toNat≤126):=by
      by_cases h:33≤t[i].toNat∧t[i].toNat≤126
      · rw [decide_eq_true h,decide_eq_true (by omega)]
      · rw [decide_eq_false h,decide_eq_false (by omega)]
     rw [e]
     have hs:T7 (t.take (i+1))=(T7 (t.take i) && decide (33≤t[i].toNat∧t[i].toNat≤126)):=R8 _ _ _ h1
     cases hd:decide (33≤t[i].toNat∧t[i].toNat≤126) with
     | true=>
      simp
      refine LoopNext.mk (i+1) ⟨by omega,?_⟩ (by omega) (Le.mk _ _ ?_ ?_)
      · rw [hs,hinv,hd];rfl
      · simp [num,tx];exact wrap_i64 (by omega) (by omega)
      · simp
     | false=>
      have:T7 t=false:=by
       unfold T7
       rw [List.all_eq_false]
       exact ⟨t[i],List.getElem_mem h1,by rw [hd];simp⟩
      rw [this]
      simp
   · have e:i=t.length:=by omega
     subst e
     rw [List.take_length] at hinv
     simp [hinv]
def b0t (i:Nat) (c:UInt8):Bool:=decide (i=0) || (!P2 c && !decide (c.toNat=45) && !decide (c.toNat=43) && !decide (c.toNat=46))
theorem sch_eq (i:Nat) (c:UInt8):(!P5 c && b0t i c)=!(if i=0 then P5 c else W5 c):=by
 unfold b0t W5
 have e:decide (c.toNat=45∨c.toNat=43∨c.toNat=46)=(decide (c.toNat=45) || decide (c.toNat=43) || decide (c.toNat=46)):=by
  by_cases h1:c.toNat=45<;>by_cases h2:c.toNat=43<;>by_cases h3:c.toNat=46<;>simp [h1,h2,h3]
 rw [e]
 by_cases h:i=0
 · simp [h]
 · simp only [h,decide_false,Bool.false_or,if_false]
   cases P5 c<;>cases P2 c<;>cases decide (c.toNat=45)<;>cases decide (c.toNat=43)<;>cases decide (c.toNat=46)<;>rfl
structure SS (st:St) (t:Tx) (i m:Nat) (c:UInt8):Prop where
 e0:st.env 0=.val (tx t)
 e3:st.env 3=.val (num i)
 e4:st.env 4=.val (rvb c)
 e7:st.env 7=.val (num m)
 e8:st.env 8=.val (num i)
theorem sops18 {Ks:Kx (St→Prop)} {kx:Kx (RV→St→Prop)} {st:St} {t:Tx} {i m:Nat} {c:UInt8} {b:Bool} (h:SS st t i m c) (hb:st.env 17=.val (.bool b)) (hK:∀ st',SS st' t i m c→st'.env 37=.val (.bool (b && b0t i c))→Ks.k st'):EO Tryz.prog ir247_o18 st (Ks:=Ks) (kx:=kx):=by
 unfold ir247_o18
 cases b with
 | false=>
  simp [hb]
  refine hK _ ⟨?_,?_,?_,?_,?_⟩ ?_<;>simp [h.e0,h.e3,h.e4,h.e7,h.e8]
 | true=>
  by_cases h0:i=0
  · subst h0
    simp [hb,h.e3,num]
    refine hK _ ⟨?_,?_,?_,?_,?_⟩ ?_<;>simp [h.e0,h.e3,h.e4,h.e7,h.e8,b0t]
  · simp [hb,h.e3,h.e4,num,h0,rvb]
    refine b7 rfl rfl (.inl rfl) (b7o c) ?_
    have e3:((c.toNat:Int)=45)↔c.toNat=45:=by omega
    have e4:((c.toNat:Int)=43)↔c.toNat=43:=by omega
    have e5:((c.toNat:Int)=46)↔c.toNat=46:=by omega
    cases hd:P2 c with
    | true=>
     simp [hb,h.e3,h.e4,rvb,h0]
     refine hK _ ⟨?_,?_,?_,?_,?_⟩ ?_<;>simp [h.e0,h.e3,h.e4,h.e7,h.e8,b0t,h0,hd,num,rvb]
    | false=>
     by_cases h1:c.toNat=45
     · simp [hb,h.e3,h.e4,rvb,h0,e3,e4,e5,h1]
       refine hK _ ⟨?_,?_,?_,?_,?_⟩ ?_<;>simp [h.e0,h.e3,h.e4,h.e7,h.e8,b0t,h0,hd,h1,num,rvb]
     · by_cases h2:c.toNat=43
       · simp [hb,h.e3,h.e4,rvb,h0,e3,e4,e5,h1,h2]
         refine hK _ ⟨?_,?_,?_,?_,?_⟩ ?_<;>simp [h.e0,h.e3,h.e4,h.e7,h.e8,b0t,h0,hd,h1,h2,num,rvb]
       · by_cases h3:c.toNat=46
         · simp [hb,h.e3,h.e4,rvb,h0,e3,e4,e5,h1,h2,h3]
           refine hK _ ⟨?_,?_,?_,?_,?_⟩ ?_<;>simp [h.e0,h.e3,h.e4,h.e7,h.e8,b0t,h0,hd,h1,h2,h3,num,rvb]
         · have e3':¬ ((c.toNat:Int)=45):=by omega
           have e4':¬ ((c.toNat:Int)=43):=by omega
           have e5':¬ ((c.toNat:Int)=46):=by omega
           simp [hb,h.e3,h.e4,rvb,h0,e3,e4,e5,h1,h2,h3]
           refine hK _ ⟨?_,?_,?_,?_,?_⟩ ?_<;>simp [h.e0,h.e3,h.e4,h.e7,h.e8,b0t,h0,hd,h1,h2,h3,num,rvb,e5']
theorem c4g (t:Tx) (ht:t.length < 1099511627776):d8 Tryz.prog 247 [.val (tx t)] (.ret (.val (.bool (V9 t))) []) []:=by
 refine f6 mixed ok247 rfl (fun _=>rfl) ?_
 unfold ir247
 rw [b6]
 have hmn:(if (13:Int) < (t.length:Int) then 13 else (t.length:Int))=((min t.length 13:Nat):Int):=by split<;>omega
 simp [d9,i6,j9,b8,d7,tx,b9,hmn]
 refine j8 (X:=Nat) (fun i=>⟨t6 [(0,.val (tx t)),(7,.val (num (min t.length 13:Nat))),(8,.val (num i))],t8 []⟩) (fun i=>i≤min t.length 13∧a4j (t.take i)=true) (fun i=>t.length - i) 0 (Le.mk _ _ ?_ ?_) ?_ ?_
 · simp [upd,num,tx]
 · simp
 · simp [a4j]
 · rintro i ⟨hi,hinv⟩
   have hib:((i:Int) < ((min t.length 13:Nat):Int))↔i < min t.length 13:=by omega
   unfold ir247_l9
   by_cases h1:i < min t.length 13
   · have h1t:i < t.length:=by omega
     have h1':i < t.length∧i < 13:=by omega
     simp [num,tx,hib,h1,h1'.1,h1'.2,b9,j5]
     refine b7 rfl rfl (.inl rfl) (b18 t[i]) ?_
     simp
     refine sops18 (t:=t) (i:=i) (m:=min t.length 13) (c:=t[i]) (b:=!P5 t[i]) ⟨?_,?_,?_,?_,?_⟩ ?_ (fun st' q1 q2=>?_)
     · simp [tx]
     · simp [num]
     · simp [rvb]
     · simp [num]
     · simp [num]
     · simp
     · rw [sch_eq] at q2
       simp only [x9,F6,y4,F4,y5,q7,y0,F5,l7,A6,G7,G8,j6,p5,p6,l1,y6,p9,l3,F3,x8,p8,p7,D4,D5,a0u,a0v,Option.getD_some,Option.getD_none,C1,u0,o5,D1,o4,n8,D3,n9,D2,D0,C9,H2,w6,o2,C7,v8,o1,C6,B9,C8,w5,C4,n7,v7,C5,H4,H3,C0,C2,o0,C3,w7,o3,A9,l9,B8,B7,B6,G9,u9,n0,B4,u6,m8,B3,A7,B5,u7,B1,l8,u5,B2,H1,H0,A8,u4,n6,B0,v6,n5,J2,J1,K5,J3,J7,J5,J4,K4,J6,J8,J9,K2,K3,y9,y8,y7,M0,M1,z7,F7,u1,D9,x1,K7,q8,Q1,M4,L6,N6,N8,N7,Q2,Q3,I4,I6,I5,I7,I8,N3,x3,N2,E1,E2,E3,x4,a0x,F0,x7,P9,Q0,H5,M2,M3,Option.map_some,Option.map_none,E4,x5,w9,o6,D7,D8,H8,H7,O3,O2,J0,F1,F2,I9,N9,O0,I0,o8,I1,o7,M7,E9,E8,l2,N5,O1,I3,M9,N1,N0,x2,A3,A5,A4,k7,N4,Q5,Q4,M5,I2,U4,M6,o9,E6,E7,x6,E5,l0,u2,k9,u3,k8,K6,O4,O5,z1,z6,F9,F8,D6,q2]
       have hsucc:=b2r t i h1t
       cases hgood:(if i=0 then P5 t[i] else W5 t[i]) with
       | true=>
        refine f8 (fun h=>by simp at h) (fun _=>?_)
        simp [q1.e8,num]
        refine LoopNext.mk (i+1) ⟨by omega,?_⟩ (by omega) (Le.mk _ _ ?_ ?_)
        · rw [hsucc,hinv,hgood];rfl
        · simp [num,tx,q1.e0,q1.e7];exact wrap_i64 (by omega) (by omega)
        · simp
       | false=>
        refine f8 (fun _=>?_) (fun h=>by simp at h)
        have:V9 t=false:=by
         unfold V9
         rw [b0s t i h1t hgood,Bool.and_false]
        rw [this]
        simp
   · have e:i=min t.length 13:=by omega
     simp [num,tx,hib,h1,b9]
     refine b7 rfl rfl (.inl rfl) (R4 t.length 1 12) ?_
     have:V9 t=decide ((1:Int)≤(t.length:Int)∧(t.length:Int)≤12):=by
      unfold V9
      by_cases hl:t.length≤12
      · have:i=t.length:=by omega
        subst this
        rw [List.take_length] at hinv
        rw [hinv,Bool.and_true]
        by_cases h0:1≤t.length
        · rw [decide_eq_true (by omega),decide_eq_true (by omega)]
        · rw [decide_eq_false (by omega),decide_eq_false (by omega)]
      · rw [decide_eq_false (by omega),decide_eq_false (by omega)];rfl
     rw [this]
     simp
end
section
variable [GH]
theorem c7t (n:Int) (h0:-9223372036854775808≤n) (h1:n≤9223372036854775807):d8 Tryz.prog 227 [.val (num n)] (.ret (.val (tx (a6i n))) []) []:=by
 refine f6 mixed ok227 rfl (fun _=>rfl) ?_
 unfold ir227
 rw [b6]
 simp [d9,i6,j9,b8,d7,num]
 refine b7 rfl rfl (.inl rfl) (d1o n h0 h1) ?_
 simp
end
end Go.Proofs
end
section
namespace Go.Proofs
open Go.PW Go.KP
variable [GF]
structure HS (st:St) (t:Tx) (i:Nat) (c:UInt8):Prop where
 e0:st.env 0=.val (tx t)
 e3:st.env 3=.val (num i)
 e4:st.env 4=.val (rvb c)
 e6:st.env 6=.val (num t.length)
 e7:st.env 7=.val (num i)
section
variable {Ks:Kx (St→Prop)} {kx:Kx (RV→St→Prop)} {st:St} {t:Tx} {i:Nat} {c:UInt8} {b:Bool}
def c72 (t:Tx) (i:Nat):Bool:=decide ((t.getD (i - 1) 0).toNat=46)
theorem c4o (hi:i < t.length) (hl:t.length < 1099511627776) (h:HS st t i c) (hb:st.env 43=.val (.bool b)) (h0:b=false→i≠0) (hK:∀ st',HS st' t i c→st'.env 49=.val (.bool (b || c72 t i))→Ks.k st'):EO Tryz.prog ir249_o44 st (Ks:=Ks) (kx:=kx):=by
 unfold ir249_o44
 cases b with
 | true=>
  simp [hb]
  refine hK _ ⟨?_,?_,?_,?_,?_⟩ ?_<;>simp [h.e0,h.e3,h.e4,h.e6,h.e7]
 | false=>
  have hi0:=h0 rfl
  have hw:IntKind.i64.wrap ((i:Int) - 1)=((i - 1:Nat):Int):=by rw [wrap_i64 (by omega) (by omega)];omega
  have hi1:i - 1 < t.length:=by omega
  have e46:((t[i - 1].toNat:Int)=46)↔t[i - 1].toNat=46:=by omega
  by_cases h1:t[i - 1].toNat=46
  · simp [hb,h.e0,h.e3,h.e4,h.e6,h.e7,tx,num,rvb,b9,j5,hw,hi1,e46,h1]
    refine hK _ ⟨?_,?_,?_,?_,?_⟩ ?_<;>simp [h.e0,h.e3,h.e4,h.e6,h.e7,tx,num,rvb,c72,List.getElem?_eq_getElem hi1,h1]
  · have h1':((t[i - 1].toNat:Int) == 46)=false:=by simp;omega
    simp [hb,h.e0,h.e3,h.e4,h.e6,h.e7,tx,num,rvb,b9,j5,hw,hi1,e46,h1,h1']
    refine hK _ ⟨?_,?_,?_,?_,?_⟩ ?_<;>simp [h.e0,h.e3,h.e4,h.e6,h.e7,tx,num,rvb,c72,List.getElem?_eq_getElem hi1,h1,h1']
def c73 (t:Tx) (i:Nat):Bool:=decide ((t.getD (i - 1) 0).toNat=45) || c72 t i
theorem c4p (hi:i < t.length) (hl:t.length < 1099511627776) (h:HS st t i c) (hb:st.env 36=.val (.bool b)) (h0:b=false→i≠0) (hK:∀ st',HS st' t i c→st'.env 49=.val (.bool (b || c73 t i))→Ks.k st'):EO Tryz.prog ir249_o37 st (Ks:=Ks) (kx:=kx):=by
 unfold ir249_o37
 cases b with
 | true=>
  simp [hb]
  refine c4o (b:=true) (t:=t) (i:=i) (c:=c) hi hl ⟨?_,?_,?_,?_,?_⟩ ?_ (by simp) (fun st' q1 q2=>hK st' q1 (by simpa using q2))<;>simp [h.e0,h.e3,h.e4,h.e6,h.e7]
 | false=>
  have hi0:=h0 rfl
  have hw:IntKind.i64.wrap ((i:Int) - 1)=((i - 1:Nat):Int):=by rw [wrap_i64 (by omega) (by omega)];omega
  have hi1:i - 1 < t.length:=by omega
  have e46:((t[i - 1].toNat:Int)=45)↔t[i - 1].toNat=45:=by omega
  by_cases h1:t[i - 1].toNat=45
  · simp [hb,h.e0,h.e3,h.e4,h.e6,h.e7,tx,num,rvb,b9,j5,hw,hi1,e46,h1]
    refine c4o (b:=true) (t:=t) (i:=i) (c:=c) hi hl ⟨?_,?_,?_,?_,?_⟩ ?_ (by simp) (fun st' q1 q2=>hK st' q1 (by rw [q2];simp [c73,List.getElem?_eq_getElem hi1,h1]))<;>simp [h.e0,h.e3,h.e4,h.e6,h.e7,tx,num,rvb]
  · have h1':((t[i - 1].toNat:Int) == 45)=false:=by simp;omega
    simp [hb,h.e0,h.e3,h.e4,h.e6,h.e7,tx,num,rvb,b9,j5,hw,hi1,e46,h1,h1']
    refine c4o (b:=false) (t:=t) (i:=i) (c:=c) hi hl ⟨?_,?_,?_,?_,?_⟩ ?_ (fun _=>hi0) (fun st' q1 q2=>hK st' q1 (by rw [q2];simp [c73,List.getElem?_eq_getElem hi1,h1]))<;>simp [h.e0,h.e3,h.e4,h.e6,h.e7,tx,num,rvb]
def c74 (t:Tx) (i:Nat):Bool:=decide (i=t.length - 1) || c73 t i
theorem c4q (hi:i < t.length) (hl:t.length < 1099511627776) (h:HS st t i c) (hb:st.env 29=.val (.bool b)) (h0:b=false→i≠0) (hK:∀ st',HS st' t i c→st'.env 49=.val (.bool (b || c74 t i))→Ks.k st'):EO Tryz.prog ir249_o30 st (Ks:=Ks) (kx:=kx):=by
 unfold ir249_o30
 cases b with
 | true=>
  simp [hb]
  refine c4p (b:=true) (t:=t) (i:=i) (c:=c) hi hl ⟨?_,?_,?_,?_,?_⟩ ?_ (by simp) (fun st' q1 q2=>hK st' q1 (by simpa using q2))<;>simp [h.e0,h.e3,h.e4,h.e6,h.e7]
 | false=>
  have hi0:=h0 rfl
  have hw:IntKind.i64.wrap ((t.length:Int) - 1)=((t.length - 1:Nat):Int):=by rw [wrap_i64 (by omega) (by omega)];omega
  have e:((i:Int) == ((t.length - 1:Nat):Int))=decide (i=t.length - 1):=by
   rw [Bool.eq_iff_iff];simp;omega
  simp only [x9,F6,y4,F4,y5,q7,y0,F5,l7,A6,G7,G8,j6,p5,p6,l1,y6,p9,l3,F3,x8,p8,p7,D4,D5,a0u,a0v,Option.getD_some,Option.getD_none,C1,u0,o5,D1,o4,n8,D3,n9,D2,D0,C9,H2,w6,o2,C7,v8,o1,C6,B9,C8,w5,C4,n7,v7,C5,H4,H3,C0,C2,o0,C3,w7,o3,A9,l9,B8,B7,B6,G9,u9,n0,B4,u6,m8,B3,A7,B5,u7,B1,l8,u5,B2,H1,H0,A8,u4,n6,B0,v6,n5,J2,J1,K5,J3,J7,J5,J4,K4,J6,J8,J9,K2,K3,y9,y8,y7,M0,M1,z7,F7,u1,D9,x1,K7,q8,Q1,M4,L6,N6,N8,N7,Q2,Q3,I4,I6,I5,I7,I8,N3,x3,N2,E1,E2,E3,x4,a0x,F0,x7,P9,Q0,H5,M2,M3,Option.map_some,Option.map_none,E4,x5,w9,o6,D7,D8,H8,H7,O3,O2,J0,F1,F2,I9,N9,O0,I0,o8,I1,o7,M7,E9,E8,l2,N5,O1,I3,M9,N1,N0,x2,A3,A5,A4,k7,N4,Q5,Q4,M5,I2,U4,M6,o9,E6,E7,x6,E5,l0,u2,k9,u3,k8,K6,O4,O5,z1,z6,F9,F8,D6,hb,h.e0,h.e3,h.e4,h.e6,h.e7,tx,num,rvb,b9,hw,e]
  refine f8 (fun _=>?_) (fun h=>absurd rfl h)
  by_cases h1:i=t.length - 1
  · simp [hb,h.e0,h.e3,h.e4,h.e6,h.e7,tx,num,rvb,b9,hw,e,(eq_true h1:(i=t.length - 1)=True)]
    refine c4p (b:=true) (t:=t) (i:=i) (c:=c) hi hl ⟨?_,?_,?_,?_,?_⟩ ?_ (by simp) (fun st' q1 q2=>hK st' q1 (by rw [q2];simp [c74,(eq_true h1:(i=t.length - 1)=True)]))<;>simp [h.e0,h.e3,h.e4,h.e6,h.e7,tx,num,rvb]
  · simp [hb,h.e0,h.e3,h.e4,h.e6,h.e7,tx,num,rvb,b9,hw,e,h1]
    refine c4p (b:=false) (t:=t) (i:=i) (c:=c) hi hl ⟨?_,?_,?_,?_,?_⟩ ?_ (fun _=>hi0) (fun st' q1 q2=>hK st' q1 (by rw [q2];simp [c74,h1]))<;>simp [h.e0,h.e3,h.e4,h.e6,h.e7,tx,num,rvb]
def b61 (t:Tx) (i:Nat):Bool:=decide (i=0) || c74 t i
theorem c4r (hi:i < t.length) (hl:t.length < 1099511627776) (h:HS st t i c) (hb:st.env 25=.val (.bool b)) (hK:∀ st',HS st' t i c→st'.env 49=.val (.bool (b || b61 t i))→Ks.k st'):EO Tryz.prog ir249_o26 st (Ks:=Ks) (kx:=kx):=by
 unfold ir249_o26
 cases b with
 | true=>
  simp [hb]
  refine c4q (b:=true) (t:=t) (i:=i) (c:=c) hi hl ⟨?_,?_,?_,?_,?_⟩ ?_ (by simp) (fun st' q1 q2=>hK st' q1 (by simpa using q2))<;>simp [h.e0,h.e3,h.e4,h.e6,h.e7]
 | false=>
  by_cases h1:i=0
  · subst h1
    simp [hb,h.e0,h.e3,h.e4,h.e6,h.e7,tx,num,rvb,b9]
    refine c4q (b:=true) (t:=t) (i:=0) (c:=c) hi hl ⟨?_,?_,?_,?_,?_⟩ ?_ (by simp) (fun st' q1 q2=>hK st' q1 (by rw [q2];simp [b61]))<;>simp [h.e0,h.e3,h.e4,h.e6,h.e7,tx,num,rvb]
  · simp [hb,h.e0,h.e3,h.e4,h.e6,h.e7,tx,num,rvb,b9,h1]
    refine c4q (b:=false) (t:=t) (i:=i) (c:=c) hi hl ⟨?_,?_,?_,?_,?_⟩ ?_ (fun _=>h1) (fun st' q1 q2=>hK st' q1 (by rw [q2];simp [b61,h1]))<;>simp [h.e0,h.e3,h.e4,h.e6,h.e7,tx,num,rvb,h1]
end
def G6 (t:Tx) (i:Nat) (c:UInt8):Bool:=(!decide (c.toNat=45) && !decide (c.toNat=46)) || b61 t i
theorem d02 {K:Kx (PExit→St→Prop)} {st:St} {t:Tx} {i:Nat} {c:UInt8} (hi:i < t.length) (hl:t.length < 1099511627776) (h:HS st t i c)
 (hR:G6 t i c=true→∀ st',st'.env 2=.val (.bool false)→K.k .ret st') (hN:G6 t i c=false→∀ st',HS st' t i c→K.k .normal st'):EC Tryz.prog ir249_s19 st (K:=K):=by
 unfold ir249_s19
 have hend:∀ b,b=(!decide (c.toNat=45) && !decide (c.toNat=46))→∀ st':St,HS st' t i c→st'.env 49=.val (.bool (b || b61 t i)) →
  CD (st'.env 49) (A:=⟨EC Tryz.prog (.seq (.reg [⟨some 2,.mov (.k (.val (.bool false))),none⟩]) .ret) st' (K:=K)⟩) (B:=⟨EC Tryz.prog .skip st' (K:=K)⟩):=by
  intro b hb st' q1 q2
  rw [q2]
  have e:(b || b61 t i)=G6 t i c:=by rw [hb];rfl
  rw [e]
  cases hbd:G6 t i c with
  | true=>
   simp
   exact hR hbd _ (by simp)
  | false=>
   simp
   exact hN hbd _ q1
 have e3:((c.toNat:Int)=45)↔c.toNat=45:=by omega
 have e5:((c.toNat:Int)=46)↔c.toNat=46:=by omega
 by_cases h1:c.toNat=45
 · simp [h.e0,h.e3,h.e4,h.e6,h.e7,tx,num,rvb,e3,e5,h1]
   refine c4r (b:=false) (t:=t) (i:=i) (c:=c) hi hl ⟨?_,?_,?_,?_,?_⟩ ?_ (fun st' q1 q2=>hend false (by simp [h1]) st' q1 q2)<;>simp [h.e0,h.e3,h.e4,h.e6,h.e7,tx,num,rvb,h1]
 · by_cases h2:c.toNat=46
   · simp [h.e0,h.e3,h.e4,h.e6,h.e7,tx,num,rvb,e3,e5,h1,h2]
     refine c4r (b:=false) (t:=t) (i:=i) (c:=c) hi hl ⟨?_,?_,?_,?_,?_⟩ ?_ (fun st' q1 q2=>hend false (by simp [h2]) st' q1 q2)<;>simp [h.e0,h.e3,h.e4,h.e6,h.e7,tx,num,rvb,h2]
   · have h2':((c.toNat:Int) == 46)=false:=by simp;omega
     simp [h.e0,h.e3,h.e4,h.e6,h.e7,tx,num,rvb,e3,e5,h1,h2,h2']
     refine c4r (b:=true) (t:=t) (i:=i) (c:=c) hi hl ⟨?_,?_,?_,?_,?_⟩ ?_ (fun st' q1 q2=>hend true (by simp [h1,h2]) st' q1 q2)<;>simp [h.e0,h.e3,h.e4,h.e6,h.e7,tx,num,rvb,h1,h2]
     all_goals omega
def a18 (c:UInt8):Bool:=P5 c || P2 c
def a2p (t:Tx) (i:Nat):Bool:=decide (i=0) || !a18 (t.getD (i - 1) 0)
theorem b4l {c:UInt8} (h:c.toNat=45∨c.toNat=46):a18 c=false:=by
 unfold a18 P5 P2
 rcases h with h | h<;>simp [h]
theorem d0z (t:Tx) (ht:t.length < 1099511627776):d8 Tryz.prog 249 [.val (tx t)] (.ret (.val (.bool (a15 t))) []) []:=by
 refine f6 mixed ok249 rfl (fun _=>rfl) ?_
 unfold ir249
 rw [b6]
 simp [d9,i6,j9,b8,d7,tx,b9]
 refine j8 (X:=Nat) (fun i=>⟨t6 [(0,.val (tx t)),(6,.val (num t.length)),(7,.val (num i))],t8 []⟩) (fun i=>i≤t.length∧a15 t=U3 (a2p t i) (t.drop i)∧(0 < i→a18 (t.getD (i - 1) 0)=true∨((t.getD (i - 1) 0).toNat=45∨(t.getD (i - 1) 0).toNat=46)∧i < t.length)) (fun i=>t.length - i) 0 (Le.mk _ _ ?_ ?_) ?_ ?_
 · simp [upd,num,tx]
 · simp
 · simp [a2p,a15]
 · rintro i ⟨hi,hinv,hprev⟩
   unfold ir249_l8
   simp [num,tx]
   refine f8 (fun h1=>?_) (fun h1=>?_)
   · have hstep:=b43 (a2p t i) t i h1
     have hg1:t.getD (i+1 - 1) 0=t[i]:=by rw [Nat.add_sub_cancel];exact a4s _ _ _ h1
     have hl1:a2p t (i+1)=!a18 t[i]:=by
      unfold a2p
      rw [hg1];simp
     have hnext:∀ st':St,st'.env 0=.val (tx t)→st'.env 6=.val (num t.length)→st'.env 7=.val (num ((i:Int)+1))→a15 t=U3 (!a18 t[i]) (t.drop (i+1))→(a18 t[i]=true∨(t[i].toNat=45∨t[i].toNat=46)∧i+1 < t.length) →
      ∃ x',(x'≤t.length∧a15 t=U3 (a2p t x') (t.drop x')∧(0 < x'→a18 (t.getD (x' - 1) 0)=true∨((t.getD (x' - 1) 0).toNat=45∨(t.getD (x' - 1) 0).toNat=46)∧x' < t.length))∧t.length - x' < t.length - i∧Le st' ⟨t6 [(0,.val (tx t)),(6,.val (num t.length)),(7,.val (num x'))],t8 []⟩:=fun st' q1 q2 q3 q4 q5=>by
      refine ⟨i+1,⟨by omega,by rw [hl1];exact q4,fun _=>by rw [hg1];exact q5⟩,by omega,Le.mk _ _ ?_ ?_⟩
      · simp [q1,q2,q3]
      · simp
     simp [tx,num,b9,j5,h1]
     refine b7 rfl rfl (.inl rfl) (b18 t[i]) ?_
     have hplain:a18 t[i]=true→a15 t=U3 (!a18 t[i]) (t.drop (i+1)):=fun hp=>by
      rw [hinv,hstep]
      have:(P5 t[i] || P2 t[i])=true:=hp
      rw [this,hp];rfl
     cases hlow:P5 t[i] with
     | true=>
      have hp:a18 t[i]=true:=by unfold a18;rw [hlow];rfl
      simp
      refine hnext _ ?_ ?_ ?_ (hplain hp) (.inl hp)
      · simp [tx]
      · simp [num]
      · simp [num];exact wrap_i64 (by omega) (by omega)
     | false=>
      simp
      refine b7 rfl rfl (.inl rfl) (b7o t[i]) ?_
      cases hdig:P2 t[i] with
      | true=>
       have hp:a18 t[i]=true:=by unfold a18;rw [hdig];simp
       simp
       refine hnext _ ?_ ?_ ?_ (hplain hp) (.inl hp)
       · simp [tx]
       · simp [num]
       · simp [num];exact wrap_i64 (by omega) (by omega)
      | false=>
       have hp:a18 t[i]=false:=by unfold a18;rw [hlow,hdig];rfl
       have hp':(P5 t[i] || P2 t[i])=false:=hp
       simp
       refine d02 (t:=t) (i:=i) (c:=t[i]) h1 ht ⟨?_,?_,?_,?_,?_⟩ (fun hbd st' q=>?_) (fun hbd st' q=>?_)
       · simp [tx]
       · simp [num]
       · simp [rvb]
       · simp [num]
       · simp [num]
       · have:a15 t=false:=by
          rw [hinv,hstep,hp']
          by_cases hcs:t[i].toNat=45∨t[i].toNat=46
          · have hb26':b61 t i=true:=by
             unfold G6 at hbd
             rcases hcs with h | h<;>simpa [h] using hbd
            have hlast:a2p t i=true∨i=t.length - 1:=by
             unfold b61 c74 c73 c72 at hb26'
             simp only [Bool.or_eq_true,decide_eq_true_eq] at hb26'
             rcases hb26' with h | h | h | h
             · left;unfold a2p;rw [decide_eq_true h];rfl
             · right;exact h
             · left;unfold a2p;rw [b4l (.inl h)];simp
             · left;unfold a2p;rw [b4l (.inr h)];simp
            by_cases hla:a2p t i=true
            · rw [hla];simp
            · have hei:i=t.length - 1:=hlast.resolve_left hla
              have hd:t.drop (i+1)=[]:=List.drop_eq_nil_of_le (by omega)
              rw [hd]
              cases (a2p t i || !decide (t[i].toNat=45∨t[i].toNat=46))<;>rfl
          · rw [decide_eq_false hcs];simp
         rw [this]
         simp [q]
       · have hcs:t[i].toNat=45∨t[i].toNat=46:=by
          unfold G6 at hbd
          by_cases h45:t[i].toNat=45
          · exact .inl h45
          · by_cases h46:t[i].toNat=46
            · exact .inr h46
            · simp [h45,h46] at hbd
         have hb26':b61 t i=false:=by
          unfold G6 at hbd
          rcases hcs with h | h<;>simpa [h] using hbd
         unfold b61 c74 c73 c72 at hb26'
         simp only [Bool.or_eq_false_iff,decide_eq_false_iff_not] at hb26'
         obtain ⟨k0,k1,k2,k3⟩:=hb26'
         have hla:a2p t i=false:=by
          unfold a2p
          rcases hprev (by omega) with h | ⟨h | h,_⟩
          · rw [h,decide_eq_false k0];rfl
          · exact absurd h k2
          · exact absurd h k3
         simp [q.e7,num]
         refine hnext _ ?_ ?_ ?_ ?_ (.inr ⟨hcs,by omega⟩)
         · simp [q.e0]
         · simp [q.e6]
         · simp [num];exact wrap_i64 (by omega) (by omega)
         · rw [hinv,hstep,hp',hla,decide_eq_true hcs,hp];rfl
   · have e:i=t.length:=by omega
     subst e
     have e3:(⟨#[]⟩:ByteArray)=bs []:=rfl
     rw [List.drop_length] at hinv
     have hfin:a15 t=!decide (t=[]):=by
      rw [hinv]
      unfold a2p
      simp only [U3]
      by_cases h0:t=[]
      · subst h0;rfl
      · have hpos:0 < t.length:=List.length_pos_iff.2 h0
        rcases hprev hpos with h | ⟨_,h⟩
        · rw [h,decide_eq_false (by omega),decide_eq_false h0];rfl
        · omega
     rw [hfin]
     simp [tx,e3,L2]
end Go.Proofs
end
section
namespace Go.Proofs
open Go.PW Go.KP
attribute [local simp] RV.cells RV.one PV.cells PV.solid PV.one G3 i7 L8 L5 RV.ofCells elems PV.killL
variable [GH]
theorem d0f (n:Int) (h0:-9223372036854775808≤n) (h1:n≤9223372036854775807):(a6i n).length≤20:=by
 unfold a6i
 split
 · have:=a44 18 (-n).toNat (by omega)
   simp;omega
 · have:=a44 18 n.toNat (by omega)
   omega
structure UT (st:St) (u:LUrl) (pre:Tx):Prop where
 e1:st.env 1=.ptr 1 0
 e3:st.env 3=.val (tx pre)
 m1:st.mem 1=.box (f5 u)
abbrev txt (t:Tx):Kx (PExit→St→Prop):=⟨a2a [.t 2] (.val (tx t))⟩
theorem c1f (u:LUrl) (hs:u.Small) (pre:Tx) (hp:pre.length < 5497558138880) (st:St) (h:UT st u pre) :
 EC Tryz.prog ir202_from7 st (K:=txt (pre++(if u.hasQ then 63 :: u.query else [])++(if u.hasF then 35 :: u.frag else []))):=by
 unfold ir202_from7
 obtain ⟨s1,s2,s3,s4,s5,s6,s7⟩:=hs
 have e5:(⟨#[63]⟩:ByteArray)=bs [63]:=rfl
 have e6:(⟨#[35]⟩:ByteArray)=bs [35]:=rfl
 cases hq:u.hasQ with
 | true=>
  cases hf:u.hasF with
  | true=>
   simp [h.e1,h.e3,h.m1,f5,tx,num,b9,e5,e6,L3,hq,hf]
   omega
  | false=>
   simp [h.e1,h.e3,h.m1,f5,tx,num,b9,e5,e6,L3,hq,hf]
   omega
 | false=>
  cases hf:u.hasF with
  | true=>
   simp [h.e1,h.e3,h.m1,f5,tx,num,b9,e5,e6,L3,hq,hf]
   omega
  | false=>
   simp [h.e1,h.e3,h.m1,f5,tx,num,b9,e5,e6,L3,hq,hf]
def b3l (u:LUrl):Tx:=u.path++(if u.hasQ then 63 :: u.query else [])++(if u.hasF then 35 :: u.frag else [])
theorem b21 (u:LUrl) (hs:u.Small) (pre:Tx) (hp:pre.length < 4398046511104) (st:St) (h:UT st u pre) :
 EC Tryz.prog ir202_from6 st (K:=txt (pre++b3l u)):=by
 unfold ir202_from6
 have hs':=hs
 obtain ⟨s1,s2,s3,s4,s5,s6,s7⟩:=hs
 have e:pre++b3l u=(pre++u.path)++(if u.hasQ then 63 :: u.query else [])++(if u.hasF then 35 :: u.frag else []):=by simp [b3l]
 rw [e]
 simp [h.e1,h.e3,h.m1,f5,tx,num,b9,L3]
 refine ⟨by omega,?_⟩
 refine c1f u hs' (pre++u.path) (by simp;omega) _ ⟨?_,?_,?_⟩<;>simp [h.e1,h.m1,f5,tx]
theorem c1g (u:LUrl) (hs:u.Small) (hp0:-9223372036854775808≤u.port) (pre:Tx) (hp:pre.length < 4398046510080) (st:St) (h:UT st u pre) :
 EC Tryz.prog ir202_from5 st (K:=txt (pre++a3d u.port++b3l u)):=by
 unfold ir202_from5
 have e5:(⟨#[58]⟩:ByteArray)=bs [58]:=rfl
 by_cases h0:u.port=0
 · have e:pre++a3d u.port++b3l u=pre++b3l u:=by simp [a3d,h0]
   rw [e]
   simp [h.e1,h.e3,h.m1,f5,tx,num,b9,L3,h0]
   refine b21 u hs pre (by omega) _ ⟨?_,?_,?_⟩<;>simp [h.e1,h.e3,h.m1,f5,tx,num,h0]
 · have e:pre++a3d u.port++b3l u=(pre++58 :: a6i u.port)++b3l u:=by simp [a3d,h0]
   rw [e]
   simp [h.e1,h.e3,h.m1,f5,tx,num,b9,L3,h0]
   refine b7 rfl rfl (.inl rfl) (c7t u.port hp0 hs.2.2.2.2.2.2) ?_
   have hl:=d0f u.port hp0 hs.2.2.2.2.2.2
   simp [tx,num,b9,L3,e5]
   refine ⟨by omega,by omega,?_⟩
   refine b21 u hs (pre++58 :: a6i u.port) (by simp;omega) _ ⟨?_,?_,?_⟩<;>simp [h.e1,h.e3,h.m1,f5,tx,num]
theorem b22 (u:LUrl) (hs:u.Small) (hp0:-9223372036854775808≤u.port) (pre:Tx) (hp:pre.length < 3298534882300) (st:St) (h:UT st u pre) :
 EC Tryz.prog ir202_from4 st (K:=txt (pre++u.host++a3d u.port++b3l u)):=by
 unfold ir202_from4
 have hs':=hs
 obtain ⟨s1,s2,s3,s4,s5,s6,s7⟩:=hs
 simp [h.e1,h.e3,h.m1,f5,tx,num,b9,L3]
 refine ⟨by omega,?_⟩
 refine c1g u hs' hp0 (pre++u.host) (by simp;omega) _ ⟨?_,?_,?_⟩<;>simp [h.e1,h.m1,f5,tx,num]
theorem c1h (u:LUrl) (hs:u.Small) (hp0:-9223372036854775808≤u.port) (st:St) (e1:st.env 1=.ptr 1 0) (m1:st.mem 1=.box (f5 u)) :
 EC Tryz.prog ir202_from2 st (K:=txt (u.scheme++[58,47,47]++(if u.user=[] then [] else u.user++[64])++u.host++a3d u.port++b3l u)):=by
 unfold ir202_from2
 have hs':=hs
 obtain ⟨s1,s2,s3,s4,s5,s6,s7⟩:=hs
 have q1:(⟨#[58,47,47]⟩:ByteArray)=bs [58,47,47]:=rfl
 have q2:(⟨#[]⟩:ByteArray)=bs []:=rfl
 have q3:(⟨#[64]⟩:ByteArray)=bs [64]:=rfl
 by_cases hu:u.user=[]
 · rw [if_pos hu,List.append_nil]
   simp [e1,m1,f5,tx,num,b9,L3,q1,q2,q3,L2,hu]
   refine ⟨by omega,?_⟩
   refine b22 u hs' hp0 (u.scheme++[58,47,47]) (by simp;omega) _ ⟨?_,?_,?_⟩<;>simp [e1,m1,f5,tx,num,hu]
 · rw [if_neg hu]
   simp [e1,m1,f5,tx,num,b9,L3,q1,q2,q3,L2,hu]
   refine ⟨by omega,by omega,by omega,?_⟩
   refine b22 u hs' hp0 (u.scheme++[58,47,47]++(u.user++[64])) (by simp;omega) _ ⟨?_,?_,?_⟩<;>simp [e1,m1,f5,tx,num]
theorem d0u (u:LUrl) (hs:u.Small) (hp0:-9223372036854775808≤u.port):d8 Tryz.prog 202 [.val (X0 u)] (.ret (.val (tx (a3c u))) []) []:=by
 refine f6 mixed ok202 rfl (fun _=>rfl) ?_
 unfold ir202
 rw [b6]
 simp [d9,i6,j9,b8,d7,X0,tx,num,i7]
 refine b7 rfl rfl (.inl rfl) (c1l u) ?_
 have q1:(⟨#[58]⟩:ByteArray)=bs [58]:=rfl
 cases hw:a0n u.scheme with
 | true=>
  simp
  have e:a3c u=u.scheme++[58,47,47]++(if u.user=[] then [] else u.user++[64])++u.host++a3d u.port++b3l u:=by simp [a3c,hw,b3l]
  rw [e]
  refine c1h u hs hp0 _ ?_ ?_<;>simp [f5,tx,num]
 | false=>
  obtain ⟨s1,s2,s3,s4,s5,s6,s7⟩:=hs
  have e:a3c u=u.scheme++[58]++u.path:=by simp [a3c,hw]
  rw [e]
  simp [tx,b9,L3,q1]
  omega
end Go.Proofs
end
section
namespace Go.KP
def a6z (t:Tx):Int×Bool:=Lib.NumEnd.casesOn (motive:=fun _=>Int×Bool) (Lib.atoiAll t) (fun v=>(v,decide (a0b t≤18) && decide (a6i v=t))) (0,false) (Lib.atoiSat t,false)
theorem c3o:∀ (u:Tx) (acc:Nat),u.all P2=true→acc*10 ^ u.length+V4 u < 1000000000000000000→Lib.parseUint10 acc u=.ok (acc*10 ^ u.length+V4 u):=by
 have hlv:∀ (u:Tx) (a:Nat),u.foldl (fun n c=>n*10+(c.toNat - 48)) a=a*10 ^ u.length+V4 u:=by
  intro u
  induction u with
  | nil=>intro a;simp [V4]
  | cons c r ih=>
   intro a
   simp only [List.foldl_cons,V4,List.length_cons]
   rw [ih,ih (0*10+(c.toNat - 48)),Nat.pow_succ]
   have:(a*10+(c.toNat - 48))*10 ^ r.length=a*(10 ^ r.length*10)+(c.toNat - 48)*10 ^ r.length:=by
    rw [Nat.add_mul];congr 1;rw [Nat.mul_assoc,Nat.mul_comm 10]
   rw [this];simp [Nat.add_assoc]
 intro u
 induction u with
 | nil=>intro acc _ _;simp [Lib.parseUint10,V4]
 | cons c r ih=>
  intro acc ha hlt
  simp only [List.all_cons,Bool.and_eq_true] at ha
  have hc:=ha.1
  simp only [P2,decide_eq_true_eq] at hc
  have e:acc*10 ^ (c :: r).length+V4 (c :: r)=(acc*10+(c.toNat - 48))*10 ^ r.length+V4 r:=by
   rw [← hlv (c :: r) acc,List.foldl_cons,hlv r]
  rw [e] at hlt ⊢
  have hp:1≤10 ^ r.length:=Nat.one_le_pow _ _ (by decide)
  have hb:acc*10+(c.toNat - 48) < 1000000000000000000:=by
   have:=Nat.le_mul_of_pos_right (acc*10+(c.toNat - 48)) hp
   omega
  rw [Lib.parseUint10.eq_2,if_pos hc,if_neg (by omega),if_neg (by omega)]
  exact ih _ ha.2 hlt
theorem c6e (t:Tx):(if (a6z t).2 then some (a6z t).1 else none)=W8 t:=by
 cases hl:W8 t with
 | some n=>
  obtain ⟨h1,h2,u,h3,h4,h5,h6⟩:=a6y hl
  have hv:V4 u < 1000000000000000000:=by
   have:=b3u u h4
   have h7:V4 u < 10 ^ 18:=Nat.lt_of_lt_of_le this (Nat.pow_le_pow_right (by omega) h5)
   have h8:(10:Nat) ^ 18=1000000000000000000:=by decide
   omega
  have hpm:Lib.parseMag u=.ok (V4 u):=by
   unfold Lib.parseMag
   rw [if_neg h3,c3o u 0 h4 (by simpa using hv)]
   simp
  have key:Lib.atoiAll t=.ok n:=by
   unfold Lib.atoiAll
   rcases h6 with ⟨rfl,hn⟩ | ⟨rfl,hn⟩
   · have e45:(45:UInt8).toNat=45:=rfl
     simp only [e45,or_true,if_true,hpm,not_true,false_and,if_false,true_and]
     rw [if_neg (by omega),hn]
   · cases hu:t with
     | nil=>exact absurd hu h3
     | cons c r=>
      have hd:P2 c=true:=by rw [hu,List.all_cons,Bool.and_eq_true] at h4;exact h4.1
      simp only [P2,decide_eq_true_eq] at hd
      have e1:¬ c.toNat=43:=by omega
      have e2:¬ c.toNat=45:=by omega
      rw [hu] at hpm hn hv
      simp only [e1,e2,or_self,if_false,not_false_eq_true,true_and,false_and]
      rw [hpm]
      dsimp only
      rw [if_neg (by omega),hn]
  unfold a6z
  rw [key]
  simp only [h1,decide_true,Bool.and_true]
  rw [decide_eq_true h2];rfl
 | none=>
  rcases hv:Lib.atoiAll t with v | _ | _<;>unfold a6z<;>rw [hv]
  · dsimp only
    by_cases h:(decide (a0b t≤18) && decide (a6i v=t))=true
    · simp only [Bool.and_eq_true,decide_eq_true_eq] at h
      have:=b81 v (by rw [h.2];exact h.1)
      rw [h.2,hl] at this
      cases this
    · rw [if_neg h]
  · rfl
  · rfl
theorem b68 {t:Tx} {v:Int} (h:Lib.atoiAll t=.ok v):-9223372036854775808≤v∧v≤9223372036854775807:=by
 unfold Lib.atoiAll at h
 split at h
 · cases h
 · dsimp only at h
   split at h
   · cases h
   · cases h
   · split at h
     · cases h
     · split at h
       · cases h
       · rename_i u _ h1 h2
         injection h with h
         split at h
         · rename_i h3
           have:¬ 9223372036854775808 < u:=fun h4=>h2 ⟨h3,h4⟩
           omega
         · rename_i h3
           have:¬ 9223372036854775808≤u:=fun h4=>h1 ⟨h3,h4⟩
           omega
theorem inum_le {t:Tx} (h:(a6z t).2=true):W8 t=some (a6z t).1:=by
 have:=c6e t
 rw [h] at this
 exact this.symm
theorem c7n {t:Tx} (h:(a6z t).2=false):W8 t=none:=by
 have:=c6e t
 rw [h] at this
 exact this.symm
end Go.KP
namespace Go.PW
open Go.RowKit
variable [GF]
theorem c8q {P:Program} {f:Nat} {rs:List RV} {vals:List Value} {p:PV} (ha:svs rs=some vals)
 (h:∀ L w,Globs L w→b69 L w→Calls P f vals.toArray w fun e w'=>(∃ v,e=.returned v∧∀ γ L,RepP γ L w' p v)∧Below w.heap.size w w'):d8 P f (rs.map .val) (.ret p []) []:=by
 intro L w vs ms hL hgl hgb hargs hnd
 obtain ⟨rfl,rfl⟩:=b9x ha hargs
 refine (h L w hgl hgb).mono fun e w' ⟨⟨v,he,hp⟩,hb⟩=>?_
 exact ⟨Outside.of_below hb,v,fun _=>undef,he,hp _ _,b2w,rfl,fun i b cells h1 h2=>by simp at h1⟩
end Go.PW
namespace Go.Proofs
open Go.PW Go.KP Go.RowKit
variable [GH]
def a11 (t:Tx):PV:=Lib.NumEnd.casesOn (motive:=fun _=>PV) (Lib.atoiAll t) (fun v=>.tup [.val (num v),.val .nilif]) (.tup [.val (num 0),.val (.ifc 278 .opq)]) (.tup [.val (num (Lib.atoiSat t)),.val (.ifc 278 .opq)])
theorem c2x (w:World) (t:ByteArray):Below w.heap.size w (Lib.bytesWorld w 5 t):=Lib.bytesWorld_below _ _ _
theorem b8j {γ:Nat→Value} {L:Nat→Prop} {w:World} {p q:PV} {v u:Value} (h1:RepP γ L w p v) (h2:RepP γ L w q u):RepP γ L w (.tup [p,q]) (.tuple #[v,u]):=
 .tup _ _ rfl fun i hi=>by
  match i,hi with
  | 0,_=>exact h1
  | 1,_=>exact h2
theorem c_Atoi (t:Tx) (ht:t.length < 4294967281):d8 Tryz.prog 253 [.val (tx t)] (.ret (a11 t) []) []:=by
 refine c8q (rs:=[tx t]) (vals:=[.string (bs t)]) rfl fun L w hgl hgb=>?_
 have hsz:(bs t).size=t.length:=b9 t
 rcases h:Lib.atoiAll t with v | _ | _
 · refine (Tryz.strconv_Atoi_ok (bs t) (by rw [hsz];omega) v (by rw [Y9];exact h) w).mono fun e w' ⟨he,hw⟩=>?_
   refine ⟨⟨_,he,fun γ L=>?_⟩,?_⟩
   · unfold a11
     rw [h]
     exact b8j (.val _ _ (.int _ _)) (.val _ _ .nilif)
   · rcases hw with hw | ⟨s,hw⟩
     · exact a5e hw
     · rw [hw];exact c2x _ _
 · refine (Calls.mono (Any.strconv_Atoi_syntax Tryz.laysC172 (bs t) (by rw [hsz];omega) (by rw [Y9];exact h) _ w (hgl _ GH.hs).2 (.inr ⟨_,_,rfl⟩)) fun e w' ⟨N,he,_,_,hw⟩=>?_)
   refine ⟨⟨_,he,fun γ L=>?_⟩,hw⟩
   unfold a11
   rw [h]
   exact b8j (.val _ _ (.int _ _)) (.val _ _ (.ifc _ _ _ (.opq _ rfl)))
 · refine (Tryz.strconv_Atoi_range (bs t) (by rw [hsz];omega) (by rw [Y9];exact h) _ w (hgl _ GH.hr).2 (.inr ⟨_,_,rfl⟩)).mono fun e w' ⟨N,he,_,_,hw⟩=>?_
   refine ⟨⟨_,he,fun γ L=>?_⟩,hw⟩
   unfold a11
   rw [h]
   rw [Y9]
   exact b8j (.val _ _ (.int _ _)) (.val _ _ (.ifc _ _ _ (.opq _ rfl)))
def b3v (t:Tx):PV:=.tup [.val (num (a6z t).1),.val (.bool (a6z t).2)]
theorem b02 (t:Tx) (ht:t.length < 4294967281) (st:St) (h0:st.env 0=.val (tx t)) (h6:st.env 6=.val (num (a0b t)))
 (h45:(∃ v,Lib.atoiAll t=.ok v∧st.env 4=.val (num v)∧st.env 5=.val .nilif)∨(∃ n,(a6z t)=(n,false)∧st.env 4=.val (num n)∧st.env 5=.val (.ifc 278 .opq))) :
 EC Tryz.prog ir242_from4 st (K:=⟨a2a [.t 2,.t 3] (b3v t)⟩):=by
 unfold ir242_from4 b3v
 rcases h45 with ⟨v,hv,h4,h5⟩ | ⟨n,hn,h4,h5⟩
 · have hr:=b68 hv
   have e:a6z t=(v,decide (a0b t≤18) && decide (a6i v=t)):=by unfold a6z;rw [hv]
   rw [e]
   by_cases hd:a0b t≤18
   · have hd':(a0b t:Int)≤18:=by omega
     simp [h0,h4,h5,h6,tx,num,hd']
     refine b7 rfl rfl (.inl rfl) (d1o v hr.1 hr.2) ?_
     simp [h0,h4,h5,h6,tx,num,L2,hd]
   · have hd':¬ (a0b t:Int)≤18:=by omega
     simp [h0,h4,h5,h6,tx,num,hd',hd]
 · rw [hn]
   simp [h0,h4,h5,h6,tx,num]
theorem d0x (t:Tx) (ht:t.length < 4294967281):d8 Tryz.prog 242 [.val (tx t)] (.ret (b3v t) []) []:=by
 refine f6 mixed ok242 rfl (fun _=>rfl) ?_
 unfold ir242
 rw [b6]
 have e3:(⟨#[]⟩:ByteArray)=bs []:=rfl
 have hA:=c_Atoi t ht
 simp [d9,i6,j9,b8,d7,tx]
 have hmid:∀ (a b:RV),a11 t=.tup [.val a,.val b]→((∃ v,Lib.atoiAll t=.ok v∧a=num v∧b=.nilif)∨(∃ n,(a6z t)=(n,false)∧a=num n∧b=.ifc 278 .opq)):=by
  intro a b h
  rcases hv:Lib.atoiAll t with v | _ | _
  · have e:a11 t=.tup [.val (num v),.val .nilif]:=by unfold a11;rw [hv]
    rw [e] at h
    simp only [PV.tup.injEq,List.cons.injEq,PV.val.injEq] at h
    exact .inl ⟨v,rfl,h.1.symm,h.2.1.symm⟩
  · have e:a11 t=.tup [.val (num 0),.val (.ifc 278 .opq)]:=by unfold a11;rw [hv]
    have e2:a6z t=(0,false):=by unfold a6z;rw [hv]
    rw [e] at h
    simp only [PV.tup.injEq,List.cons.injEq,PV.val.injEq] at h
    exact .inr ⟨0,e2,h.1.symm,h.2.1.symm⟩
  · have e:a11 t=.tup [.val (num (Lib.atoiSat t)),.val (.ifc 278 .opq)]:=by unfold a11;rw [hv]
    have e2:a6z t=(Lib.atoiSat t,false):=by unfold a6z;rw [hv]
    rw [e] at h
    simp only [PV.tup.injEq,List.cons.injEq,PV.val.injEq] at h
    exact .inr ⟨Lib.atoiSat t,e2,h.1.symm,h.2.1.symm⟩
 obtain ⟨a,b,hab⟩:∃ a b,a11 t=.tup [.val a,.val b]:=by
  unfold a11
  rcases Lib.atoiAll t with v | _ | _<;>exact ⟨_,_,rfl⟩
 have hm:=hmid a b hab
 rw [hab] at hA
 refine Y3 rfl rfl (.inl rfl) hA ?_
 cases t with
 | nil=>
  simp [tx,b9,e3,L2]
  refine b02 [] ht _ ?_ ?_ ?_
  · simp [tx]
  · simp [num,a0b]
  · rcases hm with ⟨v,h1,rfl,rfl⟩ | ⟨n,h1,rfl,rfl⟩
    · exact .inl ⟨v,h1,by simp,by simp⟩
    · exact .inr ⟨n,h1,by simp,by simp⟩
 | cons c r=>
  have hr:r.length < 4294967280:=by simp at ht;omega
  have e0:(0:Int) < ((r.length:Int)+1):=by omega
  have fin:∀ st':St,st'.env 0=.val (tx (c :: r))→st'.env 6=.val (num (a0b (c :: r)))→st'.env 4=.val a→st'.env 5=.val b→EC Tryz.prog ir242_from4 st' (K:=⟨a2a [.t 2,.t 3] (b3v (c :: r))⟩):=fun st' q0 q6 q4 q5=>by
   refine b02 (c :: r) ht st' q0 q6 ?_
   rcases hm with ⟨v,h1,rfl,rfl⟩ | ⟨n,h1,rfl,rfl⟩
   · exact .inl ⟨v,h1,q4,q5⟩
   · exact .inr ⟨n,h1,q4,q5⟩
  by_cases hc:c=45
  · have e1:((c.toNat:Int)=45):=by rw [hc];rfl
    have hw:IntKind.i64.wrap ((r.length:Int)+1 - 1)=(r.length:Int):=by rw [wrap_i64 (by omega) (by omega)];omega
    simp [tx,b9,e3,L2,j5,e0,e1,hw]
    refine fin _ ?_ ?_ ?_ ?_
    · simp [tx]
    · simp [num,a0b,hc];exact wrap_i64 (by omega) (by omega)
    · simp
    · simp
  · have e1:¬ ((c.toNat:Int)=45):=fun h=>hc (UInt8.toNat_inj.1 (by simp;omega))
    simp [tx,b9,e3,L2,j5,e0,e1]
    refine fin _ ?_ ?_ ?_ ?_
    · simp [tx]
    · simp [num,a0b,hc]
    · simp
    · simp
end Go.Proofs
end
section
namespace Go.Proofs
open Go.PW Go.KP Go.RowKit
def a13 (t:Tx) (k j:Nat):UInt8:=if j < k then c06 (t.getD j 0) else t.getD j 0
def b0o (t:Tx) (B k:Nat) (wr:World):Prop:=
 (∀ j,j < t.length→wr.cell? ⟨B,j,none⟩=some (.int .u8 ((a13 t k j).toNat:Int)))∧(∀ j,j < t.length→wr.frozen? ⟨B,j,none⟩=false)
theorem b8y (t:Tx) (w:World) (cap:Nat):b0o t w.heap.size 0 (w.alloc (.cells (bytesRow (bs t) cap) 5 ((bytesRow (bs t) cap).size,(bytesRow (bs t) cap).size+1))):=by
 have hsz:(bs t).data.size=t.length:=by simp [bs]
 refine ⟨fun j hj=>?_,fun j hj=>?_⟩
 · rw [World.cell?_alloc_mark,bytesRow_at (bs t) cap j (by omega)]
   simp [a13,bs,hj]
 · rw [World.frozen?_alloc_mark]
   have:t.length≤(bytesRow (bs t) cap).size:=by simp [bytesRow,bs]
   have h2:¬ (bytesRow (bs t) cap).size≤j:=by omega
   simp [h2]
theorem c31 {t:Tx} {B k:Nat} {wr:World} (hk:k < t.length) (h:b0o t B k wr) (h1:(65:Int)≤((a13 t k k).toNat:Int)) (h2:((a13 t k k).toNat:Int)≤90) :
 b0o t B (k+1) (wr.setCell ⟨B,k,none⟩ (.int .u8 (((a13 t k k).toNat:Int)+32))):=by
 have e0:a13 t k k=t.getD k 0:=by simp [a13]
 rw [e0] at h1 h2 ⊢
 refine ⟨fun j hj=>?_,fun j hj=>by rw [World.frozen?_setCell];exact h.2 j hj⟩
 by_cases e:j=k
 · subst e
   rw [World.cell?_setCell_same _ _ _ (h.1 j hj)]
   have:a13 t (j+1) j=t.getD j 0+32:=by
    simp only [a13,Nat.lt_succ_self,if_true,c06]
    rw [if_pos (by omega)]
   rw [this]
   congr 2
   rw [UInt8.toNat_add]
   have e32:(32:UInt8).toNat=32:=rfl
   rw [e32]
   omega
 · rw [World.cell?_setCell_other _ _ _ _ (by simp<;>omega),h.1 j hj]
   have:a13 t (k+1) j=a13 t k j:=by
    unfold a13
    by_cases hjk:j < k
    · rw [if_pos hjk,if_pos (by omega)]
    · rw [if_neg hjk,if_neg (by omega)]
   rw [this]
theorem b2z {t:Tx} {B k:Nat} {wr:World} (h:b0o t B k wr) (h1:¬ ((65:Int)≤((a13 t k k).toNat:Int)∧((a13 t k k).toNat:Int)≤90)):b0o t B (k+1) wr:=by
 have e0:a13 t k k=t.getD k 0:=by simp [a13]
 rw [e0] at h1
 refine ⟨fun j hj=>?_,h.2⟩
 rw [h.1 j hj]
 have:a13 t (k+1) j=a13 t k j:=by
  unfold a13
  by_cases hjk:j < k
  · rw [if_pos hjk,if_pos (by omega)]
  · by_cases e:j=k
    · subst e
      rw [if_pos (by omega),if_neg (by omega)]
      unfold c06
      rw [if_neg (by omega)]
    · rw [if_neg hjk,if_neg (by omega)]
 rw [this]
theorem c7e {t:Tx} {j:Nat} (hj:j < (R3 t).length):a13 t t.length j=(R3 t)[j]:=by
 have hj':j < t.length:=by simpa [R3] using hj
 unfold a13
 rw [if_pos hj',a4s _ _ _ hj']
 simp [R3]
theorem c05 {t:Tx} {B:Nat} {wr:World} (hR:b0o t B t.length wr) (cap:Nat):(convert 183 9 (.slice (some ⟨B,0,none⟩) t.length cap)).run Tryz.prog wr=.ok (.string (bs (R3 t))) wr:=by
 have hll:(R3 t).length=t.length:=by simp [R3]
 have hback:=run_convert_bytes_back (P:=Tryz.prog) wr 183 9 5 ⟨B,0,none⟩ cap (R3 t) Tryz.underlying183 Tryz.underlying5 Tryz.underlying9 (fun j hj=>by
  have h1:=hR.1 j (by omega)
  rw [c7e hj] at h1
  have e:(Addr.add ⟨B,0,none⟩ j)=⟨B,j,none⟩:=by simp [Addr.add];omega
  rw [e]
  exact h1)
 rw [hll] at hback
 exact hback
set_option maxRecDepth 1000000 in
theorem c30 (t:Tx) (w:World) (hl:t.length < 4294967281) :
 Calls Tryz.prog 239 #[.string (bs t)] w fun e w'=>e=.returned (.string (bs (R3 t)))∧Below w.heap.size w w':=by
 have hsz:(bs t).size=t.length:=b9 t
 have hconv:=run_bytes_of_string (P:=Tryz.prog) w 9 183 5 (bs t) Tryz.underlying9 Tryz.underlying183 Tryz.underlying5
 have hll:(R3 t).length=t.length:=by simp [R3]
 go_enter Tryz.func239,Tryz.ntmps239
 go_wp2
 go_loopw [10] (fun i wr=>∃ k:Nat,k≤t.length∧i=.int .i64 k∧b0o t w.heap.size k wr∧Below w.heap.size w wr)
  (fun i _=>t.length - (intOf i).toNat)
 case atStart=>
  refine ⟨0,Nat.zero_le _,rfl,?_,?_⟩
  · have:=b8y t w (grownCap w t.length 0 5)
    exact ⟨this.1,this.2⟩
  · exact ((Below.refl _ w).alloc (Nat.le_refl _) _).drew
 case round=>
  obtain ⟨k,hk,rfl,hR,hnx⟩:=hrel
  have hck:k < t.length→wr.cell? ⟨w.heap.size,k,none⟩=some (.int .u8 ((a13 t k k).toNat:Int)):=fun h=>hR.1 k h
  have hfk:k < t.length→wr.frozen? ⟨w.heap.size,k,none⟩=false:=fun h=>hR.2 k h
  go_wp2
  · refine ⟨⟨k+1,by omega,by first | rfl | simp,c31 (by assumption) hR (by assumption) (by assumption),hnx.setCell (Nat.le_refl _) _⟩,?_⟩
    simp [intOf];omega
  · refine ⟨⟨k+1,by omega,by first | rfl | simp,b2z hR (by omega),hnx⟩,?_⟩
    simp [intOf];omega
  · refine ⟨⟨k+1,by omega,by first | rfl | simp,b2z hR (by omega),hnx⟩,?_⟩
    simp [intOf];omega
  · have hkn:k=t.length:=by omega
    subst hkn
    have hback':=c05 (wr:=wr) hR (grownCap w t.length 0 5)
    rw [hback']
    go_wp2
    go_ret
    exact ⟨rfl,hnx⟩
section
variable [GF]
theorem c6g (t:Tx) (hl:t.length < 4294967281):d8 Tryz.prog 239 [.val (tx t)] (.ret (.val (tx (R3 t))) []) []:=
 a2r (rs:=[tx t]) (vals:=[.string (bs t)]) (v:=.string (bs (R3 t))) rfl rfl fun L w hgl hgb=>c30 t w hl
end
end Go.Proofs
end
section
namespace Go.Proofs
open Go.PW Go.KP
variable [GH]
theorem c3s {K:Kx (PExit→St→Prop)} (t:Tx) (i n:Nat) (c:UInt8) (b:Bool) (st:St) (e0:st.env 0=.val (tx t)) (e3:st.env 3=.val (num i)) (e4:st.env 4=.val (rvb c)) (e5:st.env 5=.val (.bool b)) (e11:st.env 11=.val (num n)) (e12:st.env 12=.val (num i))
 (hgood:(b || (!decide (i=0) && P2 c))=true→∀ st':St,st'.env 0=.val (tx t)→st'.env 11=.val (num n)→st'.env 12=.val (num i)→K.k .normal st')
 (G6:(b || (!decide (i=0) && P2 c))=false→∀ st':St,st'.env 2=.val (.bool false)→K.k .ret st') :
 EC Tryz.prog ir137_s36 st (K:=K):=by
 unfold ir137_s36
 cases b with
 | true=>
  simp [e5]
  exact hgood (by simp) _ (by simp [e0]) (by simp [e11]) (by simp [e12])
 | false=>
  by_cases h0:i=0
  · subst h0
    simp [e5,e3,e4,num]
    exact G6 (by simp) _ (by simp)
  · have f1:((c.toNat:Int) < 48)↔c.toNat < 48:=by omega
    have f2:((57:Int) < c.toNat)↔57 < c.toNat:=by omega
    by_cases h1:c.toNat < 48
    · simp [e5,e3,e4,num,rvb,h0,f1,h1]
      exact G6 (by simp [P2];omega) _ (by simp)
    · by_cases h2:57 < c.toNat
      · simp [e5,e3,e4,num,rvb,h0,f1,h1,f2,h2]
        exact G6 (by simp [P2];omega) _ (by simp)
      · simp [e5,e3,e4,num,rvb,h0,f1,h1,f2,h2]
        exact hgood (by simp [P2,h0];omega) _ (by simp [e0]) (by simp [e11,num]) (by simp [e12,num])
theorem b5d (t:Tx) (ht:t.length < 1099511627776):d8 Tryz.prog 137 [.val (tx t)] (.ret (.val (.bool (a1c t))) []) []:=by
 refine f6 mixed ok137 rfl (fun _=>rfl) ?_
 unfold ir137
 rw [b6]
 simp [d9,i6,j9,b8,d7,tx,b9]
 refine b7 rfl rfl (.inl rfl) (R4 t.length 1 12) ?_
 by_cases hlen:1≤t.length∧t.length≤12
 rotate_left
 · rw [show decide ((1:Int)≤t.length∧(t.length:Int)≤12)=false from decide_eq_false (by omega)]
   have:a1c t=false:=by unfold a1c;rw [decide_eq_false hlen];rfl
   simp [this]
 rw [show decide ((1:Int)≤t.length∧(t.length:Int)≤12)=true from decide_eq_true (by omega)]
 have hw:a1c t=X5 a1m a3l t:=by unfold a1c;rw [decide_eq_true hlen];rfl
 simp [b9]
 refine j8 (X:=Nat) (fun i=>⟨t6 [(0,.val (tx t)),(11,.val (num t.length)),(12,.val (num i))],t8 []⟩) (fun i=>i≤t.length∧X5 a1m a3l (t.take i)=true) (fun i=>t.length - i) 0 (Le.mk _ _ ?_ ?_) ?_ ?_
 · simp [upd,tx,num]
 · simp
 · simp [X5]
 · rintro i ⟨hi,hall⟩
   simp [num]
   refine f8 (fun h3=>?_) (fun h3=>?_)
   · have hstep:=a3f (p:=a1m) (q:=a3l) (fun _ h=>a5p h) t i h3
     rw [hall,Bool.true_and] at hstep
     have G6:=a2f (p:=a1m) (q:=a3l) t i h3
     have e1:((97:Int)≤t[i].toNat)↔97≤t[i].toNat:=by omega
     have e2:((t[i].toNat:Int)≤122)↔t[i].toNat≤122:=by omega
     have e3:((65:Int)≤t[i].toNat)↔65≤t[i].toNat:=by omega
     have e4:((t[i].toNat:Int)≤90)↔t[i].toNat≤90:=by omega
     have e5:((t[i].toNat:Int)=95)↔t[i].toNat=95:=by omega
     have key:∀ (b:Bool) (st':St),b=a1m t[i]→st'.env 0=.val (tx t)→st'.env 3=.val (num i)→st'.env 4=.val (rvb t[i])→st'.env 5=.val (.bool b)→st'.env 11=.val (num t.length)→st'.env 12=.val (num i)→True:=fun _ _ _ _ _ _ _ _ _=>trivial
     have hg:(a1m t[i] || (!decide (i=0) && P2 t[i]))=true→(if i=0 then a1m t[i] else a3l t[i])=true:=fun h=>by
      by_cases h0:i=0
      · subst h0;simpa using h
      · simpa [h0,a3l] using h
     have hb:(a1m t[i] || (!decide (i=0) && P2 t[i]))=false→(if i=0 then a1m t[i] else a3l t[i])=false:=fun h=>by
      by_cases h0:i=0
      · subst h0;simpa using h
      · simpa [h0,a3l] using h
     by_cases h1:97≤t[i].toNat<;>by_cases h2:t[i].toNat≤122<;>by_cases h4:65≤t[i].toNat<;>by_cases h5:t[i].toNat≤90<;>by_cases h6:t[i].toNat=95<;>first
      | (exfalso;omega)
      | (simp [num,tx,b9,j5,h3,e1,e2,e3,e4,e5,h1,h2,h4,h5,h6]
         refine c3s t i t.length t[i] (a1m t[i]) _ (by simp [tx]) (by simp [num]) (by simp [rvb,h6]) (by simp [a1m,P5,isUp,e1,e2,e3,e4,e5,h1,h2,h4,h5,h6]) (by simp [num]) (by simp [num]) (fun hh st' q0 q11 q12=>?_) (fun hh st' q2=>?_)
         · simp [q12,num]
           refine LoopNext.mk (i+1) ⟨by omega,by rw [hstep];exact hg hh⟩ (by omega) (Le.mk _ _ ?_ ?_)
           · simp [q0,q11,num];exact wrap_i64 (by omega) (by omega)
           · simp
         · have:a1c t=false:=by rw [hw];exact G6 (hb hh)
           simp [q2,this])
   · have e:i=t.length:=by omega
     subst e
     rw [List.take_length] at hall
     simp [hw,hall]
end Go.Proofs
end
