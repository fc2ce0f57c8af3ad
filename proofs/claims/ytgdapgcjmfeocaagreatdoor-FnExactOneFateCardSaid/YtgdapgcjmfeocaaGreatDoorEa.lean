/- Ea: merged out of KLb, KIa, KIb, KIc, KId, KIe, KIt. -/
import Derived.Test.YtgdapgcjmfeocaaGreatDoorAc
import Derived.Test.YtgdapgcjmfeocaaGreatDoorShelf
import Derived.Test.YtgdapgcjmfeocaaGreatDoorCa
import Derived.Test.YtgdapgcjmfeocaaGreatDoorBa
import Derived.Test.YtgdapgcjmfeocaaGreatDoorProg
import Derived.WalkKit
import Derived.Laws.IdiomStrings
set_option linter.unusedSectionVars false
set_option linter.unusedSimpArgs false
set_option linter.unusedVariables false
set_option maxRecDepth 100000
section
namespace Go.KP
theorem a6g (s:Tx) (c:UInt8):Lib.indexByte s c=if c∈s then (J0 s c:Int) else -1:=by
 induction s with
 | nil=>simp [Lib.indexByte]
 | cons b l ih=>
  unfold Lib.indexByte
  by_cases h:b=c
  · subst h
    simp [J0,List.findIdx_cons]
  · have h':(b == c)=false:=by simpa using h
    have h2:J0 (b :: l) c=J0 l c+1:=by simp [J0,List.findIdx_cons,h']
    rw [h',ih,h2]
    by_cases hm:c∈l
    · have hm':c∈b :: l:=List.mem_cons_of_mem _ hm
      rw [if_pos hm,if_pos hm']
      have:(((J0 l c:Nat):Int) == -1)=false:=by rw [beq_eq_false_iff_ne];omega
      rw [this];simp
    · have hm':¬ c∈b :: l:=by simp [hm];exact fun e=>h e.symm
      rw [if_neg hm,if_neg hm']
      simp
theorem c79 (s:Tx) (c:UInt8):Lib.cut s [c]=(j8 s c,A3 s c,decide (c∈s)):=by
 unfold Lib.cut
 rw [Lib.index_one,a6g]
 by_cases h:c∈s
 · rw [if_pos h,if_pos (by omega)]
   simp [j8,A3,h]
 · rw [if_neg h,if_neg (by omega),a0t h,a73 h]
   simp [h]
theorem a6r (s wo:Tx):Lib.containsAny s wo=Q2 s wo:=by
 unfold Lib.containsAny
 induction s with
 | nil=>simp [Lib.indexAny,Q2]
 | cons b l ih=>
  have e:Q2 (b :: l) wo=(decide (b∈wo) || Q2 l wo):=rfl
  rw [e,← ih]
  rw [show Lib.indexAny (b :: l) wo=if wo.contains b then 0 else if Lib.indexAny l wo == -1 then -1 else Lib.indexAny l wo+1 from rfl]
  have hc:wo.contains b=decide (b∈wo):=by rw [Bool.eq_iff_iff];simp
  have hge:=Lib.indexAny_ge wo l
  rw [hc]
  by_cases h:b∈wo
  · simp [h]
  · simp only [h,decide_false,Bool.false_or,if_false,Bool.false_eq_true]
    by_cases h2:Lib.indexAny l wo=-1
    · simp [h2]
    · have h2':(Lib.indexAny l wo == -1)=false:=by simpa using h2
      rw [h2']
      simp only [Bool.false_eq_true,if_false]
      rw [decide_eq_true (by omega),decide_eq_true (by omega)]
theorem a6q (n:Nat):Lib.decDigits n=a12 n:=by
 induction n using Nat.strongRecOn with
 | ind n ih=>
  rw [Lib.decDigits]
  by_cases h:n < 10
  · rw [dif_pos h,a03 h]
  · rw [dif_neg h,a3n h,ih _ (by omega)]
theorem c4g (n:Int):Lib.itoa n=a4x n:=by
 unfold Lib.itoa a4x
 split
 · rw [a6q];congr 2;omega
 · rw [a6q]
end Go.KP
namespace Go.Proofs
open Go.PW Go.KP Go.RowKit
class GH extends GF where
 m:Int
 hm:(0,0,Value.int .i64 m)∈gs
 T10:TypeId
 z10:Nat×Nat
 h10:(3,Obj.cells (Lib.pow10Tab.map fun z=>Value.int .u64 z).toArray T10 z10)∈bs
 ts:TypeId
 ps:Value
 hs:(1,0,Value.iface ts ps)∈gs
 tr:TypeId
 pr:Value
 hr:(2,0,Value.iface tr pr)∈gs
variable [GH]
theorem W9 (t:Tx):(bs t).data.toList=t:=by simp [bs]
theorem b07 {B:Nat} (w:World) (n:Nat):Below B w (w.drewN n):=⟨rfl,rfl,rfl,Nat.le_refl _,fun _ _=>rfl⟩
theorem c13 {B:Nat} (w:World) (os:Array Obj) (h:B≤w.heap.size):Below B w (Go.Sort.grow w os):=
 ⟨rfl,rfl,rfl,by simp [Go.Sort.grow],fun k hk=>by simp [Go.Sort.grow,Array.getElem?_append,Nat.lt_of_lt_of_le hk h]⟩
theorem b3o (t:Tx) (c:UInt8) (ht:t.length < 4294967281):d8 Tryz.prog 238 [.val (tx t),.val (tx [c])] (.ret (.tup [.val (tx (j8 t c)),.val (tx (A3 t c)),.val (.bool (decide (c∈t)))]) []) []:=by
 refine b3j (rs:=[tx t,tx [c]]) (qs:=[tx (j8 t c),tx (A3 t c),.bool (decide (c∈t))]) (vals:=[.string (bs t),.string (bs [c])]) (us:=[.string (bs (j8 t c)),.string (bs (A3 t c)),.bool (decide (c∈t))]) rfl rfl fun L w hgl hgb=>?_
 refine (Tryz.strings_Cut (bs t) (bs [c]) GH.m w (by rw [b9];exact ht) (hgl _ GH.hm).2).mono fun e w' ⟨he,n,hw⟩=>?_
 rw [W9,W9,c79] at he
 exact ⟨he,hw ▸ b07 w n⟩
theorem b9i (t p:Tx):d8 Tryz.prog 241 [.val (tx t),.val (tx p)] (.ret (.tup [.val (tx (if p.isPrefixOf t then t.drop p.length else t)),.val (.bool (p.isPrefixOf t))]) []) []:=by
 refine b3j (rs:=[tx t,tx p]) (qs:=[tx (if p.isPrefixOf t then t.drop p.length else t),.bool (p.isPrefixOf t)]) (vals:=[.string (bs t),.string (bs p)]) (us:=[.string (bs (if p.isPrefixOf t then t.drop p.length else t)),.bool (p.isPrefixOf t)]) rfl rfl fun L w hgl hgb=>?_
 refine (Tryz.strings_CutPrefix (bs t) (bs p) w).mono fun e w' ⟨he,hw⟩=>?_
 rw [W9,W9] at he
 exact ⟨he,a34 hw⟩
theorem b9g (t:Tx) (c:UInt8):d8 Tryz.prog 234 [.val (tx t),.val (rvb c)] (.ret (.val (num (if c∈t then (J0 t c:Int) else -1))) []) []:=by
 refine a1u (rs:=[tx t,rvb c]) (vals:=[.string (bs t),.int .u8 c.toNat]) (v:=.int .i64 (if c∈t then (J0 t c:Int) else -1)) rfl rfl fun L w hgl hgb=>?_
 refine (Tryz.strings_IndexByte (bs t) c.toNat w).mono fun e w' ⟨he,hw⟩=>?_
 rw [W9,Lib.byte_back,a6g] at he
 exact ⟨he,a34 hw⟩
theorem b9h (t p:Tx):d8 Tryz.prog 250 [.val (tx t),.val (tx p)] (.ret (.val (.bool (p.isPrefixOf t))) []) []:=by
 refine a1u (rs:=[tx t,tx p]) (vals:=[.string (bs t),.string (bs p)]) (v:=.bool (p.isPrefixOf t)) rfl rfl fun L w hgl hgb=>?_
 refine (Tryz.strings_HasPrefix (bs t) (bs p) w).mono fun e w' ⟨he,hw⟩=>?_
 rw [W9,W9] at he
 exact ⟨he,a34 hw⟩
theorem c11 (t:Tx) (c:UInt8):d8 Tryz.prog 251 [.val (tx t),.val (tx [c])] (.ret (.val (.bool (decide (c∈t)))) []) []:=by
 refine a1u (rs:=[tx t,tx [c]]) (vals:=[.string (bs t),.string (bs [c])]) (v:=.bool (decide (c∈t))) rfl rfl fun L w hgl hgb=>?_
 refine (Tryz.strings_Contains_one (bs t) c w).mono fun e w' ⟨he,hw⟩=>?_
 rw [W9,a6g] at he
 have e1:decide (0≤(if c∈t then (J0 t c:Int) else -1))=decide (c∈t):=by
  by_cases h:c∈t
  · rw [if_pos h,decide_eq_true h,decide_eq_true (by omega)]
  · rw [if_neg h,decide_eq_false h];rfl
 rw [e1] at he
 exact ⟨he,a34 hw⟩
theorem b08 {t:Tx} (h:S7 t=true):∀ (j:Nat) b,(bs t).data.toList[j]?=some b→b.toNat < 128:=fun j b hb=>by
 rw [W9] at hb
 unfold S7 at h
 rw [List.all_eq_true] at h
 have:=h b (List.mem_of_getElem? hb)
 simp at this
 omega
theorem a7u (t wo:Tx) (ht:t.length < 4294967281) (hw:wo.length < 4294967281) (h1:S7 t=true) (h2:S7 wo=true):d8 Tryz.prog 161 [.val (tx t),.val (tx wo)] (.ret (.val (.bool (Q2 t wo))) []) []:=by
 refine a1u (rs:=[tx t,tx wo]) (vals:=[.string (bs t),.string (bs wo)]) (v:=.bool (Q2 t wo)) rfl rfl fun L w hgl hgb=>?_
 refine (Tryz.strings_ContainsAny_laid (bs t) (bs wo) w (by rw [b9];exact ht) (by rw [b9];exact hw) (b08 h1) (b08 h2)).mono fun e w' ⟨he,hw⟩=>?_
 rw [W9,W9,a6r] at he
 exact ⟨he,hw⟩
theorem c8l (n:Int) (h0:-9223372036854775808≤n) (h1:n≤9223372036854775807):d8 Tryz.prog 244 [.val (num n)] (.ret (.val (tx (a4x n))) []) []:=by
 refine a1u (rs:=[num n]) (vals:=[.int .i64 n]) (v:=.string (bs (a4x n))) rfl rfl fun L w hgl hgb=>?_
 have htab:Lib.TabIs Tryz.prog w "internal/strconv.uint64pow10" .u64 Lib.pow10Tab:=by
  unfold Lib.TabIs World.var?
  have e:Tryz.prog.globalNamed "internal/strconv.uint64pow10" = some 3:=by kernel_rfl
  rw [e]
  simp only [Option.bind_some]
  rw [(hgb _ GH.h10).2]
 refine (Tryz.strconv_Itoa n h0 h1 w htab).mono fun e w' ⟨he,k,os,hw⟩=>?_
 rw [c4g] at he
 exact ⟨he,hw ▸ (b07 w k).trans (c13 _ _ (Nat.le_refl _))⟩
end Go.Proofs
end
section
namespace Go.Proofs
open Go.PW Go.KP
attribute [local simp] RV.cells RV.one PV.cells PV.solid PV.one t8 f9 H0 A5 RV.ofCells elems PV.killL
section
variable [GF]
theorem P6 (a lo hi:Int):d8 Tryz.prog 60 [.val (num a),.val (num lo),.val (num hi)] (.ret (.val (.bool (decide (lo≤a∧a≤hi)))) []) []:=by
 refine f5 mixed ok60 rfl (fun _=>rfl) ?_
 unfold ir60
 rw [b7]
 by_cases h:lo≤a
 · simp [d9,i6,j6,b8,d7,num,h]
 · simp [d9,i6,j6,b8,d7,num,h]
theorem i_isNow (n:Int):d8 Tryz.prog 81 [.val (num n)] (.ret (.val (.bool (decide (0≤n∧n≤1000000)))) []) []:=by
 refine f5 mixed ok81 rfl (fun _=>rfl) ?_
 unfold ir81
 rw [b7]
 simp [d9,i6,j6,b8,d7,num]
 refine b6 rfl rfl (.inl rfl) (P6 n 0 1000000) ?_
 simp
theorem b2y (b:Bool) (n:Int):d8 Tryz.prog 59 [.val (.bool b),.val (num n)] (.ret (.val (num (if b then 0 else n))) []) []:=by
 refine f5 mixed ok59 rfl (fun _=>rfl) ?_
 unfold ir59
 rw [b7]
 cases b<;>simp [d9,i6,j6,b8,d7,num]
theorem i_long (t:Tx):d8 Tryz.prog 225 [.val (tx t)] (.ret (.val (num (if t.length≤65536 then 0 else 2))) []) []:=by
 refine f5 mixed ok225 rfl (fun _=>rfl) ?_
 unfold ir225
 rw [b7]
 have e:decide ((t.length:Int)≤65536)=decide (t.length≤65536):=by
  by_cases h:t.length≤65536
  · rw [decide_eq_true h,decide_eq_true (by omega)]
  · rw [decide_eq_false h,decide_eq_false (by omega)]
 simp [d9,i6,j6,b8,d7,tx,b9,e]
 refine b6 rfl rfl (.inl rfl) (b2y (decide (t.length≤65536)) 2) ?_
 simp [num]
theorem a97 (c:UInt8):d8 Tryz.prog 196 [.val (rvb c)] (.ret (.val (.bool (M7 c))) []) []:=by
 refine f5 mixed ok196 rfl (fun _=>rfl) ?_
 unfold ir196
 rw [b7]
 have e1:((97:Int)≤c.toNat)↔97≤c.toNat:=by omega
 have e2:((c.toNat:Int)≤122)↔c.toNat≤122:=by omega
 by_cases h:97≤c.toNat
 · simp [d9,i6,j6,b8,d7,rvb,M7,h,e1,e2]
 · simp [d9,i6,j6,b8,d7,rvb,M7,h,e1,e2]
theorem b4y (c:UInt8):d8 Tryz.prog 257 [.val (rvb c)] (.ret (.val (.bool (M3 c))) []) []:=by
 refine f5 mixed ok257 rfl (fun _=>rfl) ?_
 unfold ir257
 rw [b7]
 have e1:((48:Int)≤c.toNat)↔48≤c.toNat:=by omega
 have e2:((c.toNat:Int)≤57)↔c.toNat≤57:=by omega
 by_cases h:48≤c.toNat
 · simp [d9,i6,j6,b8,d7,rvb,M3,h,e1,e2]
 · simp [d9,i6,j6,b8,d7,rvb,M3,h,e1,e2]
theorem b8h (u:LUrl):d8 Tryz.prog 201 [.val (V7 u)] (.ret (.val (.bool (Z1 u.scheme))) []) []:=by
 refine f5 mixed ok201 rfl (fun _=>rfl) ?_
 unfold ir201
 rw [b7]
 have e1:(⟨#[104,116,116,112]⟩:ByteArray)=bs a5r:=rfl
 have e2:(⟨#[104,116,116,112,115]⟩:ByteArray)=bs a7z:=rfl
 by_cases h:u.scheme=a5r
 · simp [d9,i6,j6,b8,d7,V7,tx,num,e1,e2,G9,Z1,h]
 · by_cases h':u.scheme=a7z
   · simp [d9,i6,j6,b8,d7,V7,tx,num,e1,e2,G9,Z1,h',show ¬ a7z=a5r by decide]
   · simp [d9,i6,j6,b8,d7,V7,tx,num,e1,e2,G9,Z1,h,h']
theorem c2x (t:Tx):d8 Tryz.prog 243 [.val (tx t)] (.ret (.val (num (Z3 t))) []) []:=by
 refine f5 mixed ok243 rfl (fun _=>rfl) ?_
 unfold ir243
 rw [b7]
 have e1:(⟨#[104,116,116,112]⟩:ByteArray)=bs a5r:=rfl
 by_cases h:t=a5r
 · simp [d9,i6,j6,b8,d7,tx,e1,G9,Z3,h,num]
 · simp [d9,i6,j6,b8,d7,tx,e1,G9,Z3,h,num]
def a3v (l:List Int):Int:=(l.find? (fun c=>c != 0)).getD 0
theorem c4b {c:Int} (h:c≠0) (r:List Int):a3v (c :: r)=c:=by simp [a3v,h]
theorem b74 (r:List Int):a3v (0 :: r)=a3v r:=by simp [a3v]
theorem i_first (l:List Int) (hl:l.length < 1099511627776):d8 Tryz.prog 58 [.val (.list 1 (l.map num))] (.ret (.val (num (a3v l))) []) []:=by
 refine f5 mixed ok58 rfl (fun _=>rfl) ?_
 unfold ir58
 rw [b7]
 simp [d9,i6,j6,b8,d7,num]
 refine j7 (X:=Nat) (fun i=>⟨l8 [(5,.val (.list 1 (l.map num))),(6,.val (num l.length)),(7,.val (num i))],l9 []⟩) (fun i=>i≤l.length∧a3v l=a3v (l.drop i)) (fun i=>l.length - i) 0 (Le.mk _ _ ?_ ?_) ?_ ?_
 · simp [upd,num]
 · simp
 · simp
 · rintro i ⟨hi,hinv⟩
   simp [num]
   refine f6 (fun h1=>?_) (fun h1=>?_)
   · have e:(l.map num)[i]?.getD RV.nilptr=num l[i]:=by simp [List.getElem?_eq_getElem h1]
     have e2:(l.map num)[i]'(by simpa using h1)=num l[i]:=by simp
     rw [List.drop_eq_getElem_cons h1] at hinv
     by_cases h0:l[i]=0
     · simp [num,h1,h0]
       refine LoopNext.mk (i+1) ⟨by omega,?_⟩ (by omega) (Le.mk _ _ ?_ ?_)
       · rw [hinv,h0,b74]
       · simp [num];exact wrap_i64 (by omega) (by omega)
       · simp
     · simp [num,h1,h0]
       rw [hinv,c4b h0]
   · have e:i=l.length:=by omega
     subst e
     simp [num]
     rw [hinv];simp [a3v]
theorem c05 (t:Tx) (ht:t.length < 1099511627776):d8 Tryz.prog 248 [.val (tx t)] (.ret (.val (.bool (S7 t))) []) []:=by
 refine f5 mixed ok248 rfl (fun _=>rfl) ?_
 unfold ir248
 rw [b7]
 simp [d9,i6,j6,b8,d7,tx,b9]
 refine j7 (X:=Nat) (fun i=>⟨l8 [(0,.val (tx t)),(5,.val (num t.length)),(6,.val (num i))],l9 []⟩) (fun i=>i≤t.length∧S7 (t.take i)=true) (fun i=>t.length - i) 0 (Le.mk _ _ ?_ ?_) ?_ ?_
 · simp [upd,num,tx]
 · simp
 · simp [S7]
 · rintro i ⟨hi,hinv⟩
   simp [num,tx]
   refine f6 (fun h1=>?_) (fun h1=>?_)
   · simp [tx,num,b9,j4,h1]
     have hw:IntKind.i64.wrap (t[i].toNat:Int)=(t[i].toNat:Int):=wrap_i64 (by omega) (by have:=t[i].toNat_lt;omega)
     refine b6 rfl rfl (.inl rfl) (by rw [hw];exact P6 (t[i].toNat:Int) 33 126) ?_
     have e:decide ((33:Int)≤(t[i].toNat:Int)∧(t[i].toNat:Int)≤126)=decide (33≤t[i].toNat∧t[i].toNat≤126):=by
      by_cases h:33≤t[i].toNat∧t[i].toNat≤126
      · rw [decide_eq_true h,decide_eq_true (by omega)]
      · rw [decide_eq_false h,decide_eq_false (by omega)]
     rw [e]
     have hs:S7 (t.take (i+1))=(S7 (t.take i) && decide (33≤t[i].toNat∧t[i].toNat≤126)):=Q4 _ _ _ h1
     cases hd:decide (33≤t[i].toNat∧t[i].toNat≤126) with
     | true=>
      simp
      refine LoopNext.mk (i+1) ⟨by omega,?_⟩ (by omega) (Le.mk _ _ ?_ ?_)
      · rw [hs,hinv,hd];rfl
      · simp [num,tx];exact wrap_i64 (by omega) (by omega)
      · simp
     | false=>
      have:S7 t=false:=by
       unfold S7
       rw [List.all_eq_false]
       exact ⟨t[i],List.getElem_mem h1,by rw [hd];simp⟩
      rw [this]
      simp
   · have e:i=t.length:=by omega
     subst e
     rw [List.take_length] at hinv
     simp [hinv]
def a8w (i:Nat) (c:UInt8):Bool:=decide (i=0) || (!M3 c && !decide (c.toNat=45) && !decide (c.toNat=43) && !decide (c.toNat=46))
theorem sch_eq (i:Nat) (c:UInt8):(!M7 c && a8w i c)=!(if i=0 then M7 c else U8 c):=by
 unfold a8w U8
 have e:decide (c.toNat=45∨c.toNat=43∨c.toNat=46)=(decide (c.toNat=45) || decide (c.toNat=43) || decide (c.toNat=46)):=by
  by_cases h1:c.toNat=45<;>by_cases h2:c.toNat=43<;>by_cases h3:c.toNat=46<;>simp [h1,h2,h3]
 rw [e]
 by_cases h:i=0
 · simp [h]
 · simp only [h,decide_false,Bool.false_or,if_false]
   cases M7 c<;>cases M3 c<;>cases decide (c.toNat=45)<;>cases decide (c.toNat=43)<;>cases decide (c.toNat=46)<;>rfl
structure SS (st:St) (t:Tx) (i m:Nat) (c:UInt8):Prop where
 e0:st.env 0=.val (tx t)
 e3:st.env 3=.val (num i)
 e4:st.env 4=.val (rvb c)
 e7:st.env 7=.val (num m)
 e8:st.env 8=.val (num i)
theorem sops18 {Ks:Kx (St→Prop)} {kx:Kx (RV→St→Prop)} {st:St} {t:Tx} {i m:Nat} {c:UInt8} {b:Bool} (h:SS st t i m c) (hb:st.env 17=.val (.bool b)) (hK:∀ st',SS st' t i m c→st'.env 37=.val (.bool (b && a8w i c))→Ks.k st'):EO Tryz.prog ir247_o18 st (Ks:=Ks) (kx:=kx):=by
 unfold ir247_o18
 cases b with
 | false=>
  simp [hb]
  refine hK _ ⟨?_,?_,?_,?_,?_⟩ ?_<;>simp [h.e0,h.e3,h.e4,h.e7,h.e8]
 | true=>
  by_cases h0:i=0
  · subst h0
    simp [hb,h.e3,num]
    refine hK _ ⟨?_,?_,?_,?_,?_⟩ ?_<;>simp [h.e0,h.e3,h.e4,h.e7,h.e8,a8w]
  · simp [hb,h.e3,h.e4,num,h0,rvb]
    refine b6 rfl rfl (.inl rfl) (b4y c) ?_
    have e3:((c.toNat:Int)=45)↔c.toNat=45:=by omega
    have e4:((c.toNat:Int)=43)↔c.toNat=43:=by omega
    have e5:((c.toNat:Int)=46)↔c.toNat=46:=by omega
    cases hd:M3 c with
    | true=>
     simp [hb,h.e3,h.e4,rvb,h0]
     refine hK _ ⟨?_,?_,?_,?_,?_⟩ ?_<;>simp [h.e0,h.e3,h.e4,h.e7,h.e8,a8w,h0,hd,num,rvb]
    | false=>
     by_cases h1:c.toNat=45
     · simp [hb,h.e3,h.e4,rvb,h0,e3,e4,e5,h1]
       refine hK _ ⟨?_,?_,?_,?_,?_⟩ ?_<;>simp [h.e0,h.e3,h.e4,h.e7,h.e8,a8w,h0,hd,h1,num,rvb]
     · by_cases h2:c.toNat=43
       · simp [hb,h.e3,h.e4,rvb,h0,e3,e4,e5,h1,h2]
         refine hK _ ⟨?_,?_,?_,?_,?_⟩ ?_<;>simp [h.e0,h.e3,h.e4,h.e7,h.e8,a8w,h0,hd,h1,h2,num,rvb]
       · by_cases h3:c.toNat=46
         · simp [hb,h.e3,h.e4,rvb,h0,e3,e4,e5,h1,h2,h3]
           refine hK _ ⟨?_,?_,?_,?_,?_⟩ ?_<;>simp [h.e0,h.e3,h.e4,h.e7,h.e8,a8w,h0,hd,h1,h2,h3,num,rvb]
         · have e3':¬ ((c.toNat:Int)=45):=by omega
           have e4':¬ ((c.toNat:Int)=43):=by omega
           have e5':¬ ((c.toNat:Int)=46):=by omega
           simp [hb,h.e3,h.e4,rvb,h0,e3,e4,e5,h1,h2,h3]
           refine hK _ ⟨?_,?_,?_,?_,?_⟩ ?_<;>simp [h.e0,h.e3,h.e4,h.e7,h.e8,a8w,h0,hd,h1,h2,h3,num,rvb,e5']
theorem c03 (t:Tx) (ht:t.length < 1099511627776):d8 Tryz.prog 247 [.val (tx t)] (.ret (.val (.bool (U2 t))) []) []:=by
 refine f5 mixed ok247 rfl (fun _=>rfl) ?_
 unfold ir247
 rw [b7]
 have hmn:(if (13:Int) < (t.length:Int) then 13 else (t.length:Int))=((min t.length 13:Nat):Int):=by split<;>omega
 simp [d9,i6,j6,b8,d7,tx,b9,hmn]
 refine j7 (X:=Nat) (fun i=>⟨l8 [(0,.val (tx t)),(7,.val (num (min t.length 13:Nat))),(8,.val (num i))],l9 []⟩) (fun i=>i≤min t.length 13∧a3e (t.take i)=true) (fun i=>t.length - i) 0 (Le.mk _ _ ?_ ?_) ?_ ?_
 · simp [upd,num,tx]
 · simp
 · simp [a3e]
 · rintro i ⟨hi,hinv⟩
   have hib:((i:Int) < ((min t.length 13:Nat):Int))↔i < min t.length 13:=by omega
   unfold ir247_l9
   by_cases h1:i < min t.length 13
   · have h1t:i < t.length:=by omega
     have h1':i < t.length∧i < 13:=by omega
     simp [num,tx,hib,h1,h1'.1,h1'.2,b9,j4]
     refine b6 rfl rfl (.inl rfl) (a97 t[i]) ?_
     simp
     refine sops18 (t:=t) (i:=i) (m:=min t.length 13) (c:=t[i]) (b:=!M7 t[i]) ⟨?_,?_,?_,?_,?_⟩ ?_ (fun st' q1 q2=>?_)
     · simp [tx]
     · simp [num]
     · simp [rvb]
     · simp [num]
     · simp [num]
     · simp
     · rw [sch_eq] at q2
       simp only [y5,G3,y7,G1,y8,t6,y6,G2,m8,B2,H6,H7,k6,p9,q7,l4,y9,s8,l6,G0,y4,q9,q8,E1,E3,a04,a05,Option.getD_some,Option.getD_none,C7,u2,o9,D7,o8,o2,D9,o3,D8,D6,D5,I1,w9,o6,D3,w7,o5,D2,C5,D4,w8,D0,o1,w6,D1,I3,I2,C6,C8,o4,C9,x1,o7,B5,n5,C4,C3,C2,H8,v8,n7,C0,v6,n6,B9,B3,C1,v7,B7,n0,u9,B8,I0,H9,B4,u7,n9,B6,w5,n8,K2,J9,L5,K3,K7,K5,K4,L4,K6,K8,K9,L2,L3,z7,z6,z1,M8,M9,A8,G4,u3,E7,x3,L7,t7,R5,N2,M0,O4,O6,O5,R6,R7,J2,J4,J3,J5,J6,O1,x6,O0,E8,E9,F0,x7,a09,F7,y0,R3,R4,I4,N0,N1,Option.map_some,Option.map_none,F1,x8,x2,p5,E5,E6,I6,I5,P1,P0,J8,F8,F9,J7,O7,O8,I7,p7,I8,p6,N6,F6,F5,l5,O3,O9,J1,N7,N9,N8,x5,A9,B1,B0,l0,O2,S0,R9,N3,I9,V3,N4,p8,F3,F4,x9,F2,l3,u5,l2,u6,l1,L6,P2,P3,z8,A0,G6,G5,E4,q2]
       have hsucc:=b0n t i h1t
       cases hgood:(if i=0 then M7 t[i] else U8 t[i]) with
       | true=>
        refine f6 (fun h=>by simp at h) (fun _=>?_)
        simp [q1.e8,num]
        refine LoopNext.mk (i+1) ⟨by omega,?_⟩ (by omega) (Le.mk _ _ ?_ ?_)
        · rw [hsucc,hinv,hgood];rfl
        · simp [num,tx,q1.e0,q1.e7];exact wrap_i64 (by omega) (by omega)
        · simp
       | false=>
        refine f6 (fun _=>?_) (fun h=>by simp at h)
        have:U2 t=false:=by
         unfold U2
         rw [a8v t i h1t hgood,Bool.and_false]
        rw [this]
        simp
   · have e:i=min t.length 13:=by omega
     simp [num,tx,hib,h1,b9]
     refine b6 rfl rfl (.inl rfl) (P6 t.length 1 12) ?_
     have:U2 t=decide ((1:Int)≤(t.length:Int)∧(t.length:Int)≤12):=by
      unfold U2
      by_cases hl:t.length≤12
      · have:i=t.length:=by omega
        subst this
        rw [List.take_length] at hinv
        rw [hinv,Bool.and_true]
        by_cases h0:1≤t.length
        · rw [decide_eq_true (by omega),decide_eq_true (by omega)]
        · rw [decide_eq_false (by omega),decide_eq_false (by omega)]
      · rw [decide_eq_false (by omega),decide_eq_false (by omega)];rfl
     rw [this]
     simp
end
section
variable [GH]
theorem c4n (n:Int) (h0:-9223372036854775808≤n) (h1:n≤9223372036854775807):d8 Tryz.prog 227 [.val (num n)] (.ret (.val (tx (a4x n))) []) []:=by
 refine f5 mixed ok227 rfl (fun _=>rfl) ?_
 unfold ir227
 rw [b7]
 simp [d9,i6,j6,b8,d7,num]
 refine b6 rfl rfl (.inl rfl) (c8l n h0 h1) ?_
 simp
end
end Go.Proofs
end
section
namespace Go.Proofs
open Go.PW Go.KP
variable [GF]
structure HS (st:St) (t:Tx) (i:Nat) (c:UInt8):Prop where
 e0:st.env 0=.val (tx t)
 e3:st.env 3=.val (num i)
 e4:st.env 4=.val (rvb c)
 e6:st.env 6=.val (num t.length)
 e7:st.env 7=.val (num i)
section
variable {Ks:Kx (St→Prop)} {kx:Kx (RV→St→Prop)} {st:St} {t:Tx} {i:Nat} {c:UInt8} {b:Bool}
def c4x (t:Tx) (i:Nat):Bool:=decide ((t.getD (i - 1) 0).toNat=46)
theorem c1b (hi:i < t.length) (hl:t.length < 1099511627776) (h:HS st t i c) (hb:st.env 43=.val (.bool b)) (h0:b=false→i≠0) (hK:∀ st',HS st' t i c→st'.env 49=.val (.bool (b || c4x t i))→Ks.k st'):EO Tryz.prog ir249_o44 st (Ks:=Ks) (kx:=kx):=by
 unfold ir249_o44
 cases b with
 | true=>
  simp [hb]
  refine hK _ ⟨?_,?_,?_,?_,?_⟩ ?_<;>simp [h.e0,h.e3,h.e4,h.e6,h.e7]
 | false=>
  have hi0:=h0 rfl
  have hw:IntKind.i64.wrap ((i:Int) - 1)=((i - 1:Nat):Int):=by rw [wrap_i64 (by omega) (by omega)];omega
  have hi1:i - 1 < t.length:=by omega
  have e46:((t[i - 1].toNat:Int)=46)↔t[i - 1].toNat=46:=by omega
  by_cases h1:t[i - 1].toNat=46
  · simp [hb,h.e0,h.e3,h.e4,h.e6,h.e7,tx,num,rvb,b9,j4,hw,hi1,e46,h1]
    refine hK _ ⟨?_,?_,?_,?_,?_⟩ ?_<;>simp [h.e0,h.e3,h.e4,h.e6,h.e7,tx,num,rvb,c4x,List.getElem?_eq_getElem hi1,h1]
  · have h1':((t[i - 1].toNat:Int) == 46)=false:=by simp;omega
    simp [hb,h.e0,h.e3,h.e4,h.e6,h.e7,tx,num,rvb,b9,j4,hw,hi1,e46,h1,h1']
    refine hK _ ⟨?_,?_,?_,?_,?_⟩ ?_<;>simp [h.e0,h.e3,h.e4,h.e6,h.e7,tx,num,rvb,c4x,List.getElem?_eq_getElem hi1,h1,h1']
def c4y (t:Tx) (i:Nat):Bool:=decide ((t.getD (i - 1) 0).toNat=45) || c4x t i
theorem c1c (hi:i < t.length) (hl:t.length < 1099511627776) (h:HS st t i c) (hb:st.env 36=.val (.bool b)) (h0:b=false→i≠0) (hK:∀ st',HS st' t i c→st'.env 49=.val (.bool (b || c4y t i))→Ks.k st'):EO Tryz.prog ir249_o37 st (Ks:=Ks) (kx:=kx):=by
 unfold ir249_o37
 cases b with
 | true=>
  simp [hb]
  refine c1b (b:=true) (t:=t) (i:=i) (c:=c) hi hl ⟨?_,?_,?_,?_,?_⟩ ?_ (by simp) (fun st' q1 q2=>hK st' q1 (by simpa using q2))<;>simp [h.e0,h.e3,h.e4,h.e6,h.e7]
 | false=>
  have hi0:=h0 rfl
  have hw:IntKind.i64.wrap ((i:Int) - 1)=((i - 1:Nat):Int):=by rw [wrap_i64 (by omega) (by omega)];omega
  have hi1:i - 1 < t.length:=by omega
  have e46:((t[i - 1].toNat:Int)=45)↔t[i - 1].toNat=45:=by omega
  by_cases h1:t[i - 1].toNat=45
  · simp [hb,h.e0,h.e3,h.e4,h.e6,h.e7,tx,num,rvb,b9,j4,hw,hi1,e46,h1]
    refine c1b (b:=true) (t:=t) (i:=i) (c:=c) hi hl ⟨?_,?_,?_,?_,?_⟩ ?_ (by simp) (fun st' q1 q2=>hK st' q1 (by rw [q2];simp [c4y,List.getElem?_eq_getElem hi1,h1]))<;>simp [h.e0,h.e3,h.e4,h.e6,h.e7,tx,num,rvb]
  · have h1':((t[i - 1].toNat:Int) == 45)=false:=by simp;omega
    simp [hb,h.e0,h.e3,h.e4,h.e6,h.e7,tx,num,rvb,b9,j4,hw,hi1,e46,h1,h1']
    refine c1b (b:=false) (t:=t) (i:=i) (c:=c) hi hl ⟨?_,?_,?_,?_,?_⟩ ?_ (fun _=>hi0) (fun st' q1 q2=>hK st' q1 (by rw [q2];simp [c4y,List.getElem?_eq_getElem hi1,h1]))<;>simp [h.e0,h.e3,h.e4,h.e6,h.e7,tx,num,rvb]
def c4z (t:Tx) (i:Nat):Bool:=decide (i=t.length - 1) || c4y t i
theorem c1d (hi:i < t.length) (hl:t.length < 1099511627776) (h:HS st t i c) (hb:st.env 29=.val (.bool b)) (h0:b=false→i≠0) (hK:∀ st',HS st' t i c→st'.env 49=.val (.bool (b || c4z t i))→Ks.k st'):EO Tryz.prog ir249_o30 st (Ks:=Ks) (kx:=kx):=by
 unfold ir249_o30
 cases b with
 | true=>
  simp [hb]
  refine c1c (b:=true) (t:=t) (i:=i) (c:=c) hi hl ⟨?_,?_,?_,?_,?_⟩ ?_ (by simp) (fun st' q1 q2=>hK st' q1 (by simpa using q2))<;>simp [h.e0,h.e3,h.e4,h.e6,h.e7]
 | false=>
  have hi0:=h0 rfl
  have hw:IntKind.i64.wrap ((t.length:Int) - 1)=((t.length - 1:Nat):Int):=by rw [wrap_i64 (by omega) (by omega)];omega
  have e:((i:Int) == ((t.length - 1:Nat):Int))=decide (i=t.length - 1):=by
   rw [Bool.eq_iff_iff];simp;omega
  simp only [y5,G3,y7,G1,y8,t6,y6,G2,m8,B2,H6,H7,k6,p9,q7,l4,y9,s8,l6,G0,y4,q9,q8,E1,E3,a04,a05,Option.getD_some,Option.getD_none,C7,u2,o9,D7,o8,o2,D9,o3,D8,D6,D5,I1,w9,o6,D3,w7,o5,D2,C5,D4,w8,D0,o1,w6,D1,I3,I2,C6,C8,o4,C9,x1,o7,B5,n5,C4,C3,C2,H8,v8,n7,C0,v6,n6,B9,B3,C1,v7,B7,n0,u9,B8,I0,H9,B4,u7,n9,B6,w5,n8,K2,J9,L5,K3,K7,K5,K4,L4,K6,K8,K9,L2,L3,z7,z6,z1,M8,M9,A8,G4,u3,E7,x3,L7,t7,R5,N2,M0,O4,O6,O5,R6,R7,J2,J4,J3,J5,J6,O1,x6,O0,E8,E9,F0,x7,a09,F7,y0,R3,R4,I4,N0,N1,Option.map_some,Option.map_none,F1,x8,x2,p5,E5,E6,I6,I5,P1,P0,J8,F8,F9,J7,O7,O8,I7,p7,I8,p6,N6,F6,F5,l5,O3,O9,J1,N7,N9,N8,x5,A9,B1,B0,l0,O2,S0,R9,N3,I9,V3,N4,p8,F3,F4,x9,F2,l3,u5,l2,u6,l1,L6,P2,P3,z8,A0,G6,G5,E4,hb,h.e0,h.e3,h.e4,h.e6,h.e7,tx,num,rvb,b9,hw,e]
  refine f6 (fun _=>?_) (fun h=>absurd rfl h)
  by_cases h1:i=t.length - 1
  · simp [hb,h.e0,h.e3,h.e4,h.e6,h.e7,tx,num,rvb,b9,hw,e,(eq_true h1:(i=t.length - 1)=True)]
    refine c1c (b:=true) (t:=t) (i:=i) (c:=c) hi hl ⟨?_,?_,?_,?_,?_⟩ ?_ (by simp) (fun st' q1 q2=>hK st' q1 (by rw [q2];simp [c4z,(eq_true h1:(i=t.length - 1)=True)]))<;>simp [h.e0,h.e3,h.e4,h.e6,h.e7,tx,num,rvb]
  · simp [hb,h.e0,h.e3,h.e4,h.e6,h.e7,tx,num,rvb,b9,hw,e,h1]
    refine c1c (b:=false) (t:=t) (i:=i) (c:=c) hi hl ⟨?_,?_,?_,?_,?_⟩ ?_ (fun _=>hi0) (fun st' q1 q2=>hK st' q1 (by rw [q2];simp [c4z,h1]))<;>simp [h.e0,h.e3,h.e4,h.e6,h.e7,tx,num,rvb]
def b4g (t:Tx) (i:Nat):Bool:=decide (i=0) || c4z t i
theorem c1e (hi:i < t.length) (hl:t.length < 1099511627776) (h:HS st t i c) (hb:st.env 25=.val (.bool b)) (hK:∀ st',HS st' t i c→st'.env 49=.val (.bool (b || b4g t i))→Ks.k st'):EO Tryz.prog ir249_o26 st (Ks:=Ks) (kx:=kx):=by
 unfold ir249_o26
 cases b with
 | true=>
  simp [hb]
  refine c1d (b:=true) (t:=t) (i:=i) (c:=c) hi hl ⟨?_,?_,?_,?_,?_⟩ ?_ (by simp) (fun st' q1 q2=>hK st' q1 (by simpa using q2))<;>simp [h.e0,h.e3,h.e4,h.e6,h.e7]
 | false=>
  by_cases h1:i=0
  · subst h1
    simp [hb,h.e0,h.e3,h.e4,h.e6,h.e7,tx,num,rvb,b9]
    refine c1d (b:=true) (t:=t) (i:=0) (c:=c) hi hl ⟨?_,?_,?_,?_,?_⟩ ?_ (by simp) (fun st' q1 q2=>hK st' q1 (by rw [q2];simp [b4g]))<;>simp [h.e0,h.e3,h.e4,h.e6,h.e7,tx,num,rvb]
  · simp [hb,h.e0,h.e3,h.e4,h.e6,h.e7,tx,num,rvb,b9,h1]
    refine c1d (b:=false) (t:=t) (i:=i) (c:=c) hi hl ⟨?_,?_,?_,?_,?_⟩ ?_ (fun _=>h1) (fun st' q1 q2=>hK st' q1 (by rw [q2];simp [b4g,h1]))<;>simp [h.e0,h.e3,h.e4,h.e6,h.e7,tx,num,rvb,h1]
end
def A1 (t:Tx) (i:Nat) (c:UInt8):Bool:=(!decide (c.toNat=45) && !decide (c.toNat=46)) || b4g t i
theorem c7r {K:Kx (PExit→St→Prop)} {st:St} {t:Tx} {i:Nat} {c:UInt8} (hi:i < t.length) (hl:t.length < 1099511627776) (h:HS st t i c)
 (hR:A1 t i c=true→∀ st',st'.env 2=.val (.bool false)→K.k .ret st') (hN:A1 t i c=false→∀ st',HS st' t i c→K.k .normal st'):EC Tryz.prog ir249_s19 st (K:=K):=by
 unfold ir249_s19
 have hend:∀ b,b=(!decide (c.toNat=45) && !decide (c.toNat=46))→∀ st':St,HS st' t i c→st'.env 49=.val (.bool (b || b4g t i)) →
  CD (st'.env 49) (A:=⟨EC Tryz.prog (.seq (.reg [⟨some 2,.mov (.k (.val (.bool false))),none⟩]) .ret) st' (K:=K)⟩) (B:=⟨EC Tryz.prog .skip st' (K:=K)⟩):=by
  intro b hb st' q1 q2
  rw [q2]
  have e:(b || b4g t i)=A1 t i c:=by rw [hb];rfl
  rw [e]
  cases hbd:A1 t i c with
  | true=>
   simp
   exact hR hbd _ (by simp)
  | false=>
   simp
   exact hN hbd _ q1
 have e3:((c.toNat:Int)=45)↔c.toNat=45:=by omega
 have e5:((c.toNat:Int)=46)↔c.toNat=46:=by omega
 by_cases h1:c.toNat=45
 · simp [h.e0,h.e3,h.e4,h.e6,h.e7,tx,num,rvb,e3,e5,h1]
   refine c1e (b:=false) (t:=t) (i:=i) (c:=c) hi hl ⟨?_,?_,?_,?_,?_⟩ ?_ (fun st' q1 q2=>hend false (by simp [h1]) st' q1 q2)<;>simp [h.e0,h.e3,h.e4,h.e6,h.e7,tx,num,rvb,h1]
 · by_cases h2:c.toNat=46
   · simp [h.e0,h.e3,h.e4,h.e6,h.e7,tx,num,rvb,e3,e5,h1,h2]
     refine c1e (b:=false) (t:=t) (i:=i) (c:=c) hi hl ⟨?_,?_,?_,?_,?_⟩ ?_ (fun st' q1 q2=>hend false (by simp [h2]) st' q1 q2)<;>simp [h.e0,h.e3,h.e4,h.e6,h.e7,tx,num,rvb,h2]
   · have h2':((c.toNat:Int) == 46)=false:=by simp;omega
     simp [h.e0,h.e3,h.e4,h.e6,h.e7,tx,num,rvb,e3,e5,h1,h2,h2']
     refine c1e (b:=true) (t:=t) (i:=i) (c:=c) hi hl ⟨?_,?_,?_,?_,?_⟩ ?_ (fun st' q1 q2=>hend true (by simp [h1,h2]) st' q1 q2)<;>simp [h.e0,h.e3,h.e4,h.e6,h.e7,tx,num,rvb,h1,h2]
     all_goals omega
def a1g (c:UInt8):Bool:=M7 c || M3 c
def a1s (t:Tx) (i:Nat):Bool:=decide (i=0) || !a1g (t.getD (i - 1) 0)
theorem b2a {c:UInt8} (h:c.toNat=45∨c.toNat=46):a1g c=false:=by
 unfold a1g M7 M3
 rcases h with h | h<;>simp [h]
theorem c7o (t:Tx) (ht:t.length < 1099511627776):d8 Tryz.prog 249 [.val (tx t)] (.ret (.val (.bool (a1d t))) []) []:=by
 refine f5 mixed ok249 rfl (fun _=>rfl) ?_
 unfold ir249
 rw [b7]
 simp [d9,i6,j6,b8,d7,tx,b9]
 refine j7 (X:=Nat) (fun i=>⟨l8 [(0,.val (tx t)),(6,.val (num t.length)),(7,.val (num i))],l9 []⟩) (fun i=>i≤t.length∧a1d t=S9 (a1s t i) (t.drop i)∧(0 < i→a1g (t.getD (i - 1) 0)=true∨((t.getD (i - 1) 0).toNat=45∨(t.getD (i - 1) 0).toNat=46)∧i < t.length)) (fun i=>t.length - i) 0 (Le.mk _ _ ?_ ?_) ?_ ?_
 · simp [upd,num,tx]
 · simp
 · simp [a1s,a1d]
 · rintro i ⟨hi,hinv,hprev⟩
   unfold ir249_l8
   simp [num,tx]
   refine f6 (fun h1=>?_) (fun h1=>?_)
   · have hstep:=b2s (a1s t i) t i h1
     have hg1:t.getD (i+1 - 1) 0=t[i]:=by rw [Nat.add_sub_cancel];exact a3p _ _ _ h1
     have hl1:a1s t (i+1)=!a1g t[i]:=by
      unfold a1s
      rw [hg1];simp
     have hnext:∀ st':St,st'.env 0=.val (tx t)→st'.env 6=.val (num t.length)→st'.env 7=.val (num ((i:Int)+1))→a1d t=S9 (!a1g t[i]) (t.drop (i+1))→(a1g t[i]=true∨(t[i].toNat=45∨t[i].toNat=46)∧i+1 < t.length) →
      ∃ x',(x'≤t.length∧a1d t=S9 (a1s t x') (t.drop x')∧(0 < x'→a1g (t.getD (x' - 1) 0)=true∨((t.getD (x' - 1) 0).toNat=45∨(t.getD (x' - 1) 0).toNat=46)∧x' < t.length))∧t.length - x' < t.length - i∧Le st' ⟨l8 [(0,.val (tx t)),(6,.val (num t.length)),(7,.val (num x'))],l9 []⟩:=fun st' q1 q2 q3 q4 q5=>by
      refine ⟨i+1,⟨by omega,by rw [hl1];exact q4,fun _=>by rw [hg1];exact q5⟩,by omega,Le.mk _ _ ?_ ?_⟩
      · simp [q1,q2,q3]
      · simp
     simp [tx,num,b9,j4,h1]
     refine b6 rfl rfl (.inl rfl) (a97 t[i]) ?_
     have hplain:a1g t[i]=true→a1d t=S9 (!a1g t[i]) (t.drop (i+1)):=fun hp=>by
      rw [hinv,hstep]
      have:(M7 t[i] || M3 t[i])=true:=hp
      rw [this,hp];rfl
     cases hlow:M7 t[i] with
     | true=>
      have hp:a1g t[i]=true:=by unfold a1g;rw [hlow];rfl
      simp
      refine hnext _ ?_ ?_ ?_ (hplain hp) (.inl hp)
      · simp [tx]
      · simp [num]
      · simp [num];exact wrap_i64 (by omega) (by omega)
     | false=>
      simp
      refine b6 rfl rfl (.inl rfl) (b4y t[i]) ?_
      cases hdig:M3 t[i] with
      | true=>
       have hp:a1g t[i]=true:=by unfold a1g;rw [hdig];simp
       simp
       refine hnext _ ?_ ?_ ?_ (hplain hp) (.inl hp)
       · simp [tx]
       · simp [num]
       · simp [num];exact wrap_i64 (by omega) (by omega)
      | false=>
       have hp:a1g t[i]=false:=by unfold a1g;rw [hlow,hdig];rfl
       have hp':(M7 t[i] || M3 t[i])=false:=hp
       simp
       refine c7r (t:=t) (i:=i) (c:=t[i]) h1 ht ⟨?_,?_,?_,?_,?_⟩ (fun hbd st' q=>?_) (fun hbd st' q=>?_)
       · simp [tx]
       · simp [num]
       · simp [rvb]
       · simp [num]
       · simp [num]
       · have:a1d t=false:=by
          rw [hinv,hstep,hp']
          by_cases hcs:t[i].toNat=45∨t[i].toNat=46
          · have hb26':b4g t i=true:=by
             unfold A1 at hbd
             rcases hcs with h | h<;>simpa [h] using hbd
            have hlast:a1s t i=true∨i=t.length - 1:=by
             unfold b4g c4z c4y c4x at hb26'
             simp only [Bool.or_eq_true,decide_eq_true_eq] at hb26'
             rcases hb26' with h | h | h | h
             · left;unfold a1s;rw [decide_eq_true h];rfl
             · right;exact h
             · left;unfold a1s;rw [b2a (.inl h)];simp
             · left;unfold a1s;rw [b2a (.inr h)];simp
            by_cases hla:a1s t i=true
            · rw [hla];simp
            · have hei:i=t.length - 1:=hlast.resolve_left hla
              have hd:t.drop (i+1)=[]:=List.drop_eq_nil_of_le (by omega)
              rw [hd]
              cases (a1s t i || !decide (t[i].toNat=45∨t[i].toNat=46))<;>rfl
          · rw [decide_eq_false hcs];simp
         rw [this]
         simp [q]
       · have hcs:t[i].toNat=45∨t[i].toNat=46:=by
          unfold A1 at hbd
          by_cases h45:t[i].toNat=45
          · exact .inl h45
          · by_cases h46:t[i].toNat=46
            · exact .inr h46
            · simp [h45,h46] at hbd
         have hb26':b4g t i=false:=by
          unfold A1 at hbd
          rcases hcs with h | h<;>simpa [h] using hbd
         unfold b4g c4z c4y c4x at hb26'
         simp only [Bool.or_eq_false_iff,decide_eq_false_iff_not] at hb26'
         obtain ⟨k0,k1,k2,k3⟩:=hb26'
         have hla:a1s t i=false:=by
          unfold a1s
          rcases hprev (by omega) with h | ⟨h | h,_⟩
          · rw [h,decide_eq_false k0];rfl
          · exact absurd h k2
          · exact absurd h k3
         simp [q.e7,num]
         refine hnext _ ?_ ?_ ?_ ?_ (.inr ⟨hcs,by omega⟩)
         · simp [q.e0]
         · simp [q.e6]
         · simp [num];exact wrap_i64 (by omega) (by omega)
         · rw [hinv,hstep,hp',hla,decide_eq_true hcs,hp];rfl
   · have e:i=t.length:=by omega
     subst e
     have e3:(⟨#[]⟩:ByteArray)=bs []:=rfl
     rw [List.drop_length] at hinv
     have hfin:a1d t=!decide (t=[]):=by
      rw [hinv]
      unfold a1s
      simp only [S9]
      by_cases h0:t=[]
      · subst h0;rfl
      · have hpos:0 < t.length:=List.length_pos_iff.2 h0
        rcases hprev hpos with h | ⟨_,h⟩
        · rw [h,decide_eq_false (by omega),decide_eq_false h0];rfl
        · omega
     rw [hfin]
     simp [tx,e3,G9]
end Go.Proofs
end
section
namespace Go.Proofs
open Go.PW Go.KP
attribute [local simp] RV.cells RV.one PV.cells PV.solid PV.one t8 f9 H0 A5 RV.ofCells elems PV.killL
variable [GH]
theorem c64 (n:Int) (h0:-9223372036854775808≤n) (h1:n≤9223372036854775807):(a4x n).length≤20:=by
 unfold a4x
 split
 · have:=a3w 18 (-n).toNat (by omega)
   simp;omega
 · have:=a3w 18 n.toNat (by omega)
   omega
structure UT (st:St) (u:LUrl) (pre:Tx):Prop where
 e1:st.env 1=.ptr 1 0
 e3:st.env 3=.val (tx pre)
 m1:st.mem 1=.box (f7 u)
abbrev txt (t:Tx):Kx (PExit→St→Prop):=⟨a1i [.t 2] (.val (tx t))⟩
theorem b8a (u:LUrl) (hs:u.Small) (pre:Tx) (hp:pre.length < 5497558138880) (st:St) (h:UT st u pre) :
 EC Tryz.prog ir202_from7 st (K:=txt (pre++(if u.hasQ then 63 :: u.query else [])++(if u.hasF then 35 :: u.frag else []))):=by
 unfold ir202_from7
 obtain ⟨s1,s2,s3,s4,s5,s6,s7⟩:=hs
 have e5:(⟨#[63]⟩:ByteArray)=bs [63]:=rfl
 have e6:(⟨#[35]⟩:ByteArray)=bs [35]:=rfl
 cases hq:u.hasQ with
 | true=>
  cases hf:u.hasF with
  | true=>
   simp [h.e1,h.e3,h.m1,f7,tx,num,b9,e5,e6,H3,hq,hf]
   omega
  | false=>
   simp [h.e1,h.e3,h.m1,f7,tx,num,b9,e5,e6,H3,hq,hf]
   omega
 | false=>
  cases hf:u.hasF with
  | true=>
   simp [h.e1,h.e3,h.m1,f7,tx,num,b9,e5,e6,H3,hq,hf]
   omega
  | false=>
   simp [h.e1,h.e3,h.m1,f7,tx,num,b9,e5,e6,H3,hq,hf]
def b1h (u:LUrl):Tx:=u.path++(if u.hasQ then 63 :: u.query else [])++(if u.hasF then 35 :: u.frag else [])
theorem b0x (u:LUrl) (hs:u.Small) (pre:Tx) (hp:pre.length < 4398046511104) (st:St) (h:UT st u pre) :
 EC Tryz.prog ir202_from6 st (K:=txt (pre++b1h u)):=by
 unfold ir202_from6
 have hs':=hs
 obtain ⟨s1,s2,s3,s4,s5,s6,s7⟩:=hs
 have e:pre++b1h u=(pre++u.path)++(if u.hasQ then 63 :: u.query else [])++(if u.hasF then 35 :: u.frag else []):=by simp [b1h]
 rw [e]
 simp [h.e1,h.e3,h.m1,f7,tx,num,b9,H3]
 refine ⟨by omega,?_⟩
 refine b8a u hs' (pre++u.path) (by simp;omega) _ ⟨?_,?_,?_⟩<;>simp [h.e1,h.m1,f7,tx]
theorem b8b (u:LUrl) (hs:u.Small) (hp0:-9223372036854775808≤u.port) (pre:Tx) (hp:pre.length < 4398046510080) (st:St) (h:UT st u pre) :
 EC Tryz.prog ir202_from5 st (K:=txt (pre++a2b u.port++b1h u)):=by
 unfold ir202_from5
 have e5:(⟨#[58]⟩:ByteArray)=bs [58]:=rfl
 by_cases h0:u.port=0
 · have e:pre++a2b u.port++b1h u=pre++b1h u:=by simp [a2b,h0]
   rw [e]
   simp [h.e1,h.e3,h.m1,f7,tx,num,b9,H3,h0]
   refine b0x u hs pre (by omega) _ ⟨?_,?_,?_⟩<;>simp [h.e1,h.e3,h.m1,f7,tx,num,h0]
 · have e:pre++a2b u.port++b1h u=(pre++58 :: a4x u.port)++b1h u:=by simp [a2b,h0]
   rw [e]
   simp [h.e1,h.e3,h.m1,f7,tx,num,b9,H3,h0]
   refine b6 rfl rfl (.inl rfl) (c4n u.port hp0 hs.2.2.2.2.2.2) ?_
   have hl:=c64 u.port hp0 hs.2.2.2.2.2.2
   simp [tx,num,b9,H3,e5]
   refine ⟨by omega,by omega,?_⟩
   refine b0x u hs (pre++58 :: a4x u.port) (by simp;omega) _ ⟨?_,?_,?_⟩<;>simp [h.e1,h.e3,h.m1,f7,tx,num]
theorem b0y (u:LUrl) (hs:u.Small) (hp0:-9223372036854775808≤u.port) (pre:Tx) (hp:pre.length < 3298534882300) (st:St) (h:UT st u pre) :
 EC Tryz.prog ir202_from4 st (K:=txt (pre++u.host++a2b u.port++b1h u)):=by
 unfold ir202_from4
 have hs':=hs
 obtain ⟨s1,s2,s3,s4,s5,s6,s7⟩:=hs
 simp [h.e1,h.e3,h.m1,f7,tx,num,b9,H3]
 refine ⟨by omega,?_⟩
 refine b8b u hs' hp0 (pre++u.host) (by simp;omega) _ ⟨?_,?_,?_⟩<;>simp [h.e1,h.m1,f7,tx,num]
theorem b8c (u:LUrl) (hs:u.Small) (hp0:-9223372036854775808≤u.port) (st:St) (e1:st.env 1=.ptr 1 0) (m1:st.mem 1=.box (f7 u)) :
 EC Tryz.prog ir202_from2 st (K:=txt (u.scheme++[58,47,47]++(if u.user=[] then [] else u.user++[64])++u.host++a2b u.port++b1h u)):=by
 unfold ir202_from2
 have hs':=hs
 obtain ⟨s1,s2,s3,s4,s5,s6,s7⟩:=hs
 have q1:(⟨#[58,47,47]⟩:ByteArray)=bs [58,47,47]:=rfl
 have q2:(⟨#[]⟩:ByteArray)=bs []:=rfl
 have q3:(⟨#[64]⟩:ByteArray)=bs [64]:=rfl
 by_cases hu:u.user=[]
 · rw [if_pos hu,List.append_nil]
   simp [e1,m1,f7,tx,num,b9,H3,q1,q2,q3,G9,hu]
   refine ⟨by omega,?_⟩
   refine b0y u hs' hp0 (u.scheme++[58,47,47]) (by simp;omega) _ ⟨?_,?_,?_⟩<;>simp [e1,m1,f7,tx,num,hu]
 · rw [if_neg hu]
   simp [e1,m1,f7,tx,num,b9,H3,q1,q2,q3,G9,hu]
   refine ⟨by omega,by omega,by omega,?_⟩
   refine b0y u hs' hp0 (u.scheme++[58,47,47]++(u.user++[64])) (by simp;omega) _ ⟨?_,?_,?_⟩<;>simp [e1,m1,f7,tx,num]
theorem c7i (u:LUrl) (hs:u.Small) (hp0:-9223372036854775808≤u.port):d8 Tryz.prog 202 [.val (V7 u)] (.ret (.val (tx (a2a u))) []) []:=by
 refine f5 mixed ok202 rfl (fun _=>rfl) ?_
 unfold ir202
 rw [b7]
 simp [d9,i6,j6,b8,d7,V7,tx,num,f9]
 refine b6 rfl rfl (.inl rfl) (b8h u) ?_
 have q1:(⟨#[58]⟩:ByteArray)=bs [58]:=rfl
 cases hw:Z1 u.scheme with
 | true=>
  simp
  have e:a2a u=u.scheme++[58,47,47]++(if u.user=[] then [] else u.user++[64])++u.host++a2b u.port++b1h u:=by simp [a2a,hw,b1h]
  rw [e]
  refine b8c u hs hp0 _ ?_ ?_<;>simp [f7,tx,num]
 | false=>
  obtain ⟨s1,s2,s3,s4,s5,s6,s7⟩:=hs
  have e:a2a u=u.scheme++[58]++u.path:=by simp [a2a,hw]
  rw [e]
  simp [tx,b9,H3,q1]
  omega
end Go.Proofs
end
section
namespace Go.KP
def a5i (t:Tx):Int×Bool:=Lib.NumEnd.casesOn (motive:=fun _=>Int×Bool) (Lib.atoiAll t) (fun v=>(v,decide (X6 t≤18) && decide (a4x v=t))) (0,false) (Lib.atoiSat t,false)
theorem c0b:∀ (u:Tx) (acc:Nat),u.all M3=true→acc*10 ^ u.length+T8 u < 1000000000000000000→Lib.parseUint10 acc u=.ok (acc*10 ^ u.length+T8 u):=by
 have hlv:∀ (u:Tx) (a:Nat),u.foldl (fun n c=>n*10+(c.toNat - 48)) a=a*10 ^ u.length+T8 u:=by
  intro u
  induction u with
  | nil=>intro a;simp [T8]
  | cons c r ih=>
   intro a
   simp only [List.foldl_cons,T8,List.length_cons]
   rw [ih,ih (0*10+(c.toNat - 48)),Nat.pow_succ]
   have:(a*10+(c.toNat - 48))*10 ^ r.length=a*(10 ^ r.length*10)+(c.toNat - 48)*10 ^ r.length:=by
    rw [Nat.add_mul];congr 1;rw [Nat.mul_assoc,Nat.mul_comm 10]
   rw [this];simp [Nat.add_assoc]
 intro u
 induction u with
 | nil=>intro acc _ _;simp [Lib.parseUint10,T8]
 | cons c r ih=>
  intro acc ha hlt
  simp only [List.all_cons,Bool.and_eq_true] at ha
  have hc:=ha.1
  simp only [M3,decide_eq_true_eq] at hc
  have e:acc*10 ^ (c :: r).length+T8 (c :: r)=(acc*10+(c.toNat - 48))*10 ^ r.length+T8 r:=by
   rw [← hlv (c :: r) acc,List.foldl_cons,hlv r]
  rw [e] at hlt ⊢
  have hp:1≤10 ^ r.length:=Nat.one_le_pow _ _ (by decide)
  have hb:acc*10+(c.toNat - 48) < 1000000000000000000:=by
   have:=Nat.le_mul_of_pos_right (acc*10+(c.toNat - 48)) hp
   omega
  rw [Lib.parseUint10.eq_2,if_pos hc,if_neg (by omega),if_neg (by omega)]
  exact ih _ ha.2 hlt
theorem c2w (t:Tx):(if (a5i t).2 then some (a5i t).1 else none)=V1 t:=by
 cases hl:V1 t with
 | some n=>
  obtain ⟨h1,h2,u,h3,h4,h5,h6⟩:=a5g hl
  have hv:T8 u < 1000000000000000000:=by
   have:=b1o u h4
   have h7:T8 u < 10 ^ 18:=Nat.lt_of_lt_of_le this (Nat.pow_le_pow_right (by omega) h5)
   have h8:(10:Nat) ^ 18=1000000000000000000:=by decide
   omega
  have hpm:Lib.parseMag u=.ok (T8 u):=by
   unfold Lib.parseMag
   rw [if_neg h3,c0b u 0 h4 (by simpa using hv)]
   simp
  have key:Lib.atoiAll t=.ok n:=by
   unfold Lib.atoiAll
   rcases h6 with ⟨rfl,hn⟩ | ⟨rfl,hn⟩
   · have e45:(45:UInt8).toNat=45:=rfl
     simp only [e45,or_true,if_true,hpm,not_true,false_and,if_false,true_and]
     rw [if_neg (by omega),hn]
   · cases hu:t with
     | nil=>exact absurd hu h3
     | cons c r=>
      have hd:M3 c=true:=by rw [hu,List.all_cons,Bool.and_eq_true] at h4;exact h4.1
      simp only [M3,decide_eq_true_eq] at hd
      have e1:¬ c.toNat=43:=by omega
      have e2:¬ c.toNat=45:=by omega
      rw [hu] at hpm hn hv
      simp only [e1,e2,or_self,if_false,not_false_eq_true,true_and,false_and]
      rw [hpm]
      dsimp only
      rw [if_neg (by omega),hn]
  unfold a5i
  rw [key]
  simp only [h1,decide_true,Bool.and_true]
  rw [decide_eq_true h2];rfl
 | none=>
  rcases hv:Lib.atoiAll t with v | _ | _<;>unfold a5i<;>rw [hv]
  · dsimp only
    by_cases h:(decide (X6 t≤18) && decide (a4x v=t))=true
    · simp only [Bool.and_eq_true,decide_eq_true_eq] at h
      have:=b5v v (by rw [h.2];exact h.1)
      rw [h.2,hl] at this
      cases this
    · rw [if_neg h]
  · rfl
  · rfl
theorem b4k {t:Tx} {v:Int} (h:Lib.atoiAll t=.ok v):-9223372036854775808≤v∧v≤9223372036854775807:=by
 unfold Lib.atoiAll at h
 split at h
 · cases h
 · dsimp only at h
   split at h
   · cases h
   · cases h
   · split at h
     · cases h
     · split at h
       · cases h
       · rename_i u _ h1 h2
         injection h with h
         split at h
         · rename_i h3
           have:¬ 9223372036854775808 < u:=fun h4=>h2 ⟨h3,h4⟩
           omega
         · rename_i h3
           have:¬ 9223372036854775808≤u:=fun h4=>h1 ⟨h3,h4⟩
           omega
theorem inum_le {t:Tx} (h:(a5i t).2=true):V1 t=some (a5i t).1:=by
 have:=c2w t
 rw [h] at this
 exact this.symm
theorem c4h {t:Tx} (h:(a5i t).2=false):V1 t=none:=by
 have:=c2w t
 rw [h] at this
 exact this.symm
end Go.KP
namespace Go.PW
open Go.RowKit
variable [GF]
theorem c5l {P:Program} {f:Nat} {rs:List RV} {vals:List Value} {p:PV} (ha:svs rs=some vals)
 (h:∀ L w,Globs L w→b4l L w→Calls P f vals.toArray w fun e w'=>(∃ v,e=.returned v∧∀ γ L,RepP γ L w' p v)∧Below w.heap.size w w'):d8 P f (rs.map .val) (.ret p []) []:=by
 intro L w vs ms hL hgl hgb hargs hnd
 obtain ⟨rfl,rfl⟩:=b6o ha hargs
 refine (h L w hgl hgb).mono fun e w' ⟨⟨v,he,hp⟩,hb⟩=>?_
 exact ⟨Outside.of_below hb,v,fun _=>undef,he,hp _ _,b0s,rfl,fun i b cells h1 h2=>by simp at h1⟩
end Go.PW
namespace Go.Proofs
open Go.PW Go.KP Go.RowKit
variable [GH]
def a08 (t:Tx):PV:=Lib.NumEnd.casesOn (motive:=fun _=>PV) (Lib.atoiAll t) (fun v=>.tup [.val (num v),.val .nilif]) (.tup [.val (num 0),.val (.ifc 278 .opq)]) (.tup [.val (num (Lib.atoiSat t)),.val (.ifc 278 .opq)])
theorem b9m (w:World) (t:ByteArray):Below w.heap.size w (Lib.bytesWorld w 5 t):=Lib.bytesWorld_below _ _ _
theorem b5h {γ:Nat→Value} {L:Nat→Prop} {w:World} {p q:PV} {v u:Value} (h1:RepP γ L w p v) (h2:RepP γ L w q u):RepP γ L w (.tup [p,q]) (.tuple #[v,u]):=
 .tup _ _ rfl fun i hi=>by
  match i,hi with
  | 0,_=>exact h1
  | 1,_=>exact h2
theorem c_Atoi (t:Tx) (ht:t.length < 4294967281):d8 Tryz.prog 253 [.val (tx t)] (.ret (a08 t) []) []:=by
 refine c5l (rs:=[tx t]) (vals:=[.string (bs t)]) rfl fun L w hgl hgb=>?_
 have hsz:(bs t).size=t.length:=b9 t
 rcases h:Lib.atoiAll t with v | _ | _
 · refine (Tryz.strconv_Atoi_ok (bs t) (by rw [hsz];omega) v (by rw [W9];exact h) w).mono fun e w' ⟨he,hw⟩=>?_
   refine ⟨⟨_,he,fun γ L=>?_⟩,?_⟩
   · unfold a08
     rw [h]
     exact b5h (.val _ _ (.int _ _)) (.val _ _ .nilif)
   · rcases hw with hw | ⟨s,hw⟩
     · exact a34 hw
     · rw [hw];exact b9m _ _
 · refine (Calls.mono (Any.strconv_Atoi_syntax Tryz.laysC172 (bs t) (by rw [hsz];omega) (by rw [W9];exact h) _ w (hgl _ GH.hs).2 (.inr ⟨_,_,rfl⟩)) fun e w' ⟨N,he,_,_,hw⟩=>?_)
   refine ⟨⟨_,he,fun γ L=>?_⟩,hw⟩
   unfold a08
   rw [h]
   exact b5h (.val _ _ (.int _ _)) (.val _ _ (.ifc _ _ _ (.opq _ rfl)))
 · refine (Tryz.strconv_Atoi_range (bs t) (by rw [hsz];omega) (by rw [W9];exact h) _ w (hgl _ GH.hr).2 (.inr ⟨_,_,rfl⟩)).mono fun e w' ⟨N,he,_,_,hw⟩=>?_
   refine ⟨⟨_,he,fun γ L=>?_⟩,hw⟩
   unfold a08
   rw [h]
   rw [W9]
   exact b5h (.val _ _ (.int _ _)) (.val _ _ (.ifc _ _ _ (.opq _ rfl)))
def b1p (t:Tx):PV:=.tup [.val (num (a5i t).1),.val (.bool (a5i t).2)]
theorem a86 (t:Tx) (ht:t.length < 4294967281) (st:St) (h0:st.env 0=.val (tx t)) (h6:st.env 6=.val (num (X6 t)))
 (h45:(∃ v,Lib.atoiAll t=.ok v∧st.env 4=.val (num v)∧st.env 5=.val .nilif)∨(∃ n,(a5i t)=(n,false)∧st.env 4=.val (num n)∧st.env 5=.val (.ifc 278 .opq))) :
 EC Tryz.prog ir242_from4 st (K:=⟨a1i [.t 2,.t 3] (b1p t)⟩):=by
 unfold ir242_from4 b1p
 rcases h45 with ⟨v,hv,h4,h5⟩ | ⟨n,hn,h4,h5⟩
 · have hr:=b4k hv
   have e:a5i t=(v,decide (X6 t≤18) && decide (a4x v=t)):=by unfold a5i;rw [hv]
   rw [e]
   by_cases hd:X6 t≤18
   · have hd':(X6 t:Int)≤18:=by omega
     simp [h0,h4,h5,h6,tx,num,hd']
     refine b6 rfl rfl (.inl rfl) (c8l v hr.1 hr.2) ?_
     simp [h0,h4,h5,h6,tx,num,G9,hd]
   · have hd':¬ (X6 t:Int)≤18:=by omega
     simp [h0,h4,h5,h6,tx,num,hd',hd]
 · rw [hn]
   simp [h0,h4,h5,h6,tx,num]
theorem c7m (t:Tx) (ht:t.length < 4294967281):d8 Tryz.prog 242 [.val (tx t)] (.ret (b1p t) []) []:=by
 refine f5 mixed ok242 rfl (fun _=>rfl) ?_
 unfold ir242
 rw [b7]
 have e3:(⟨#[]⟩:ByteArray)=bs []:=rfl
 have hA:=c_Atoi t ht
 simp [d9,i6,j6,b8,d7,tx]
 have hmid:∀ (a b:RV),a08 t=.tup [.val a,.val b]→((∃ v,Lib.atoiAll t=.ok v∧a=num v∧b=.nilif)∨(∃ n,(a5i t)=(n,false)∧a=num n∧b=.ifc 278 .opq)):=by
  intro a b h
  rcases hv:Lib.atoiAll t with v | _ | _
  · have e:a08 t=.tup [.val (num v),.val .nilif]:=by unfold a08;rw [hv]
    rw [e] at h
    simp only [PV.tup.injEq,List.cons.injEq,PV.val.injEq] at h
    exact .inl ⟨v,rfl,h.1.symm,h.2.1.symm⟩
  · have e:a08 t=.tup [.val (num 0),.val (.ifc 278 .opq)]:=by unfold a08;rw [hv]
    have e2:a5i t=(0,false):=by unfold a5i;rw [hv]
    rw [e] at h
    simp only [PV.tup.injEq,List.cons.injEq,PV.val.injEq] at h
    exact .inr ⟨0,e2,h.1.symm,h.2.1.symm⟩
  · have e:a08 t=.tup [.val (num (Lib.atoiSat t)),.val (.ifc 278 .opq)]:=by unfold a08;rw [hv]
    have e2:a5i t=(Lib.atoiSat t,false):=by unfold a5i;rw [hv]
    rw [e] at h
    simp only [PV.tup.injEq,List.cons.injEq,PV.val.injEq] at h
    exact .inr ⟨Lib.atoiSat t,e2,h.1.symm,h.2.1.symm⟩
 obtain ⟨a,b,hab⟩:∃ a b,a08 t=.tup [.val a,.val b]:=by
  unfold a08
  rcases Lib.atoiAll t with v | _ | _<;>exact ⟨_,_,rfl⟩
 have hm:=hmid a b hab
 rw [hab] at hA
 refine V4 rfl rfl (.inl rfl) hA ?_
 cases t with
 | nil=>
  simp [tx,b9,e3,G9]
  refine a86 [] ht _ ?_ ?_ ?_
  · simp [tx]
  · simp [num,X6]
  · rcases hm with ⟨v,h1,rfl,rfl⟩ | ⟨n,h1,rfl,rfl⟩
    · exact .inl ⟨v,h1,by simp,by simp⟩
    · exact .inr ⟨n,h1,by simp,by simp⟩
 | cons c r=>
  have hr:r.length < 4294967280:=by simp at ht;omega
  have e0:(0:Int) < ((r.length:Int)+1):=by omega
  have fin:∀ st':St,st'.env 0=.val (tx (c :: r))→st'.env 6=.val (num (X6 (c :: r)))→st'.env 4=.val a→st'.env 5=.val b→EC Tryz.prog ir242_from4 st' (K:=⟨a1i [.t 2,.t 3] (b1p (c :: r))⟩):=fun st' q0 q6 q4 q5=>by
   refine a86 (c :: r) ht st' q0 q6 ?_
   rcases hm with ⟨v,h1,rfl,rfl⟩ | ⟨n,h1,rfl,rfl⟩
   · exact .inl ⟨v,h1,q4,q5⟩
   · exact .inr ⟨n,h1,q4,q5⟩
  by_cases hc:c=45
  · have e1:((c.toNat:Int)=45):=by rw [hc];rfl
    have hw:IntKind.i64.wrap ((r.length:Int)+1 - 1)=(r.length:Int):=by rw [wrap_i64 (by omega) (by omega)];omega
    simp [tx,b9,e3,G9,j4,e0,e1,hw]
    refine fin _ ?_ ?_ ?_ ?_
    · simp [tx]
    · simp [num,X6,hc];exact wrap_i64 (by omega) (by omega)
    · simp
    · simp
  · have e1:¬ ((c.toNat:Int)=45):=fun h=>hc (UInt8.toNat_inj.1 (by simp;omega))
    simp [tx,b9,e3,G9,j4,e0,e1]
    refine fin _ ?_ ?_ ?_ ?_
    · simp [tx]
    · simp [num,X6,hc]
    · simp
    · simp
end Go.Proofs
end
section
namespace Go.Proofs
open Go.PW Go.KP Go.RowKit
def a1b (t:Tx) (k j:Nat):UInt8:=if j < k then b7y (t.getD j 0) else t.getD j 0
def a8q (t:Tx) (B k:Nat) (wr:World):Prop:=
 (∀ j,j < t.length→wr.cell? ⟨B,j,none⟩=some (.int .u8 ((a1b t k j).toNat:Int)))∧(∀ j,j < t.length→wr.frozen? ⟨B,j,none⟩=false)
theorem b5s (t:Tx) (w:World) (cap:Nat):a8q t w.heap.size 0 (w.alloc (.cells (bytesRow (bs t) cap) 5 ((bytesRow (bs t) cap).size,(bytesRow (bs t) cap).size+1))):=by
 have hsz:(bs t).data.size=t.length:=by simp [bs]
 refine ⟨fun j hj=>?_,fun j hj=>?_⟩
 · rw [World.cell?_alloc_mark,bytesRow_at (bs t) cap j (by omega)]
   simp [a1b,bs,hj]
 · rw [World.frozen?_alloc_mark]
   have:t.length≤(bytesRow (bs t) cap).size:=by simp [bytesRow,bs]
   have h2:¬ (bytesRow (bs t) cap).size≤j:=by omega
   simp [h2]
theorem c0p {t:Tx} {B k:Nat} {wr:World} (hk:k < t.length) (h:a8q t B k wr) (h1:(65:Int)≤((a1b t k k).toNat:Int)) (h2:((a1b t k k).toNat:Int)≤90) :
 a8q t B (k+1) (wr.setCell ⟨B,k,none⟩ (.int .u8 (((a1b t k k).toNat:Int)+32))):=by
 have e0:a1b t k k=t.getD k 0:=by simp [a1b]
 rw [e0] at h1 h2 ⊢
 refine ⟨fun j hj=>?_,fun j hj=>by rw [World.frozen?_setCell];exact h.2 j hj⟩
 by_cases e:j=k
 · subst e
   rw [World.cell?_setCell_same _ _ _ (h.1 j hj)]
   have:a1b t (j+1) j=t.getD j 0+32:=by
    simp only [a1b,Nat.lt_succ_self,if_true,b7y]
    rw [if_pos (by omega)]
   rw [this]
   congr 2
   rw [UInt8.toNat_add]
   have e32:(32:UInt8).toNat=32:=rfl
   rw [e32]
   omega
 · rw [World.cell?_setCell_other _ _ _ _ (by simp<;>omega),h.1 j hj]
   have:a1b t (k+1) j=a1b t k j:=by
    unfold a1b
    by_cases hjk:j < k
    · rw [if_pos hjk,if_pos (by omega)]
    · rw [if_neg hjk,if_neg (by omega)]
   rw [this]
theorem b0v {t:Tx} {B k:Nat} {wr:World} (h:a8q t B k wr) (h1:¬ ((65:Int)≤((a1b t k k).toNat:Int)∧((a1b t k k).toNat:Int)≤90)):a8q t B (k+1) wr:=by
 have e0:a1b t k k=t.getD k 0:=by simp [a1b]
 rw [e0] at h1
 refine ⟨fun j hj=>?_,h.2⟩
 rw [h.1 j hj]
 have:a1b t (k+1) j=a1b t k j:=by
  unfold a1b
  by_cases hjk:j < k
  · rw [if_pos hjk,if_pos (by omega)]
  · by_cases e:j=k
    · subst e
      rw [if_pos (by omega),if_neg (by omega)]
      unfold b7y
      rw [if_neg (by omega)]
    · rw [if_neg hjk,if_neg (by omega)]
 rw [this]
theorem c39 {t:Tx} {j:Nat} (hj:j < (Q0 t).length):a1b t t.length j=(Q0 t)[j]:=by
 have hj':j < t.length:=by simpa [Q0] using hj
 unfold a1b
 rw [if_pos hj',a3p _ _ _ hj']
 simp [Q0]
theorem b7x {t:Tx} {B:Nat} {wr:World} (hR:a8q t B t.length wr) (cap:Nat):(convert 183 9 (.slice (some ⟨B,0,none⟩) t.length cap)).run Tryz.prog wr=.ok (.string (bs (Q0 t))) wr:=by
 have hll:(Q0 t).length=t.length:=by simp [Q0]
 have hback:=run_convert_bytes_back (P:=Tryz.prog) wr 183 9 5 ⟨B,0,none⟩ cap (Q0 t) Tryz.underlying183 Tryz.underlying5 Tryz.underlying9 (fun j hj=>by
  have h1:=hR.1 j (by omega)
  rw [c39 hj] at h1
  have e:(Addr.add ⟨B,0,none⟩ j)=⟨B,j,none⟩:=by simp [Addr.add];omega
  rw [e]
  exact h1)
 rw [hll] at hback
 exact hback
set_option maxRecDepth 1000000 in
theorem c0o (t:Tx) (w:World) (hl:t.length < 4294967281) :
 Calls Tryz.prog 239 #[.string (bs t)] w fun e w'=>e=.returned (.string (bs (Q0 t)))∧Below w.heap.size w w':=by
 have hsz:(bs t).size=t.length:=b9 t
 have hconv:=run_bytes_of_string (P:=Tryz.prog) w 9 183 5 (bs t) Tryz.underlying9 Tryz.underlying183 Tryz.underlying5
 have hll:(Q0 t).length=t.length:=by simp [Q0]
 go_enter Tryz.func239,Tryz.ntmps239
 go_wp2
 go_loopw [10] (fun i wr=>∃ k:Nat,k≤t.length∧i=.int .i64 k∧a8q t w.heap.size k wr∧Below w.heap.size w wr)
  (fun i _=>t.length - (intOf i).toNat)
 case atStart=>
  refine ⟨0,Nat.zero_le _,rfl,?_,?_⟩
  · have:=b5s t w (grownCap w t.length 0 5)
    exact ⟨this.1,this.2⟩
  · exact ((Below.refl _ w).alloc (Nat.le_refl _) _).drew
 case round=>
  obtain ⟨k,hk,rfl,hR,hnx⟩:=hrel
  have hck:k < t.length→wr.cell? ⟨w.heap.size,k,none⟩=some (.int .u8 ((a1b t k k).toNat:Int)):=fun h=>hR.1 k h
  have hfk:k < t.length→wr.frozen? ⟨w.heap.size,k,none⟩=false:=fun h=>hR.2 k h
  go_wp2
  · refine ⟨⟨k+1,by omega,by first | rfl | simp,c0p (by assumption) hR (by assumption) (by assumption),hnx.setCell (Nat.le_refl _) _⟩,?_⟩
    simp [intOf];omega
  · refine ⟨⟨k+1,by omega,by first | rfl | simp,b0v hR (by omega),hnx⟩,?_⟩
    simp [intOf];omega
  · refine ⟨⟨k+1,by omega,by first | rfl | simp,b0v hR (by omega),hnx⟩,?_⟩
    simp [intOf];omega
  · have hkn:k=t.length:=by omega
    subst hkn
    have hback':=b7x (wr:=wr) hR (grownCap w t.length 0 5)
    rw [hback']
    go_wp2
    go_ret
    exact ⟨rfl,hnx⟩
section
variable [GF]
theorem c2y (t:Tx) (hl:t.length < 4294967281):d8 Tryz.prog 239 [.val (tx t)] (.ret (.val (tx (Q0 t))) []) []:=
 a1u (rs:=[tx t]) (vals:=[.string (bs t)]) (v:=.string (bs (Q0 t))) rfl rfl fun L w hgl hgb=>c0o t w hl
end
end Go.Proofs
end
section
namespace Go.Proofs
open Go.PW Go.KP
variable [GH]
theorem c0f {K:Kx (PExit→St→Prop)} (t:Tx) (i n:Nat) (c:UInt8) (b:Bool) (st:St) (e0:st.env 0=.val (tx t)) (e3:st.env 3=.val (num i)) (e4:st.env 4=.val (rvb c)) (e5:st.env 5=.val (.bool b)) (e11:st.env 11=.val (num n)) (e12:st.env 12=.val (num i))
 (hgood:(b || (!decide (i=0) && M3 c))=true→∀ st':St,st'.env 0=.val (tx t)→st'.env 11=.val (num n)→st'.env 12=.val (num i)→K.k .normal st')
 (A1:(b || (!decide (i=0) && M3 c))=false→∀ st':St,st'.env 2=.val (.bool false)→K.k .ret st') :
 EC Tryz.prog ir137_s36 st (K:=K):=by
 unfold ir137_s36
 cases b with
 | true=>
  simp [e5]
  exact hgood (by simp) _ (by simp [e0]) (by simp [e11]) (by simp [e12])
 | false=>
  by_cases h0:i=0
  · subst h0
    simp [e5,e3,e4,num]
    exact A1 (by simp) _ (by simp)
  · have f1:((c.toNat:Int) < 48)↔c.toNat < 48:=by omega
    have f2:((57:Int) < c.toNat)↔57 < c.toNat:=by omega
    by_cases h1:c.toNat < 48
    · simp [e5,e3,e4,num,rvb,h0,f1,h1]
      exact A1 (by simp [M3];omega) _ (by simp)
    · by_cases h2:57 < c.toNat
      · simp [e5,e3,e4,num,rvb,h0,f1,h1,f2,h2]
        exact A1 (by simp [M3];omega) _ (by simp)
      · simp [e5,e3,e4,num,rvb,h0,f1,h1,f2,h2]
        exact hgood (by simp [M3,h0];omega) _ (by simp [e0]) (by simp [e11,num]) (by simp [e12,num])
theorem b20 (t:Tx) (ht:t.length < 1099511627776):d8 Tryz.prog 137 [.val (tx t)] (.ret (.val (.bool (a0m t))) []) []:=by
 refine f5 mixed ok137 rfl (fun _=>rfl) ?_
 unfold ir137
 rw [b7]
 simp [d9,i6,j6,b8,d7,tx,b9]
 refine b6 rfl rfl (.inl rfl) (P6 t.length 1 12) ?_
 by_cases hlen:1≤t.length∧t.length≤12
 rotate_left
 · rw [show decide ((1:Int)≤t.length∧(t.length:Int)≤12)=false from decide_eq_false (by omega)]
   have:a0m t=false:=by unfold a0m;rw [decide_eq_false hlen];rfl
   simp [this]
 rw [show decide ((1:Int)≤t.length∧(t.length:Int)≤12)=true from decide_eq_true (by omega)]
 have hw:a0m t=V9 a0u a2i t:=by unfold a0m;rw [decide_eq_true hlen];rfl
 simp [b9]
 refine j7 (X:=Nat) (fun i=>⟨l8 [(0,.val (tx t)),(11,.val (num t.length)),(12,.val (num i))],l9 []⟩) (fun i=>i≤t.length∧V9 a0u a2i (t.take i)=true) (fun i=>t.length - i) 0 (Le.mk _ _ ?_ ?_) ?_ ?_
 · simp [upd,tx,num]
 · simp
 · simp [V9]
 · rintro i ⟨hi,hall⟩
   simp [num]
   refine f6 (fun h3=>?_) (fun h3=>?_)
   · have hstep:=a2d (p:=a0u) (q:=a2i) (fun _ h=>a4e h) t i h3
     rw [hall,Bool.true_and] at hstep
     have A1:=a1m (p:=a0u) (q:=a2i) t i h3
     have e1:((97:Int)≤t[i].toNat)↔97≤t[i].toNat:=by omega
     have e2:((t[i].toNat:Int)≤122)↔t[i].toNat≤122:=by omega
     have e3:((65:Int)≤t[i].toNat)↔65≤t[i].toNat:=by omega
     have e4:((t[i].toNat:Int)≤90)↔t[i].toNat≤90:=by omega
     have e5:((t[i].toNat:Int)=95)↔t[i].toNat=95:=by omega
     have key:∀ (b:Bool) (st':St),b=a0u t[i]→st'.env 0=.val (tx t)→st'.env 3=.val (num i)→st'.env 4=.val (rvb t[i])→st'.env 5=.val (.bool b)→st'.env 11=.val (num t.length)→st'.env 12=.val (num i)→True:=fun _ _ _ _ _ _ _ _ _=>trivial
     have hg:(a0u t[i] || (!decide (i=0) && M3 t[i]))=true→(if i=0 then a0u t[i] else a2i t[i])=true:=fun h=>by
      by_cases h0:i=0
      · subst h0;simpa using h
      · simpa [h0,a2i] using h
     have hb:(a0u t[i] || (!decide (i=0) && M3 t[i]))=false→(if i=0 then a0u t[i] else a2i t[i])=false:=fun h=>by
      by_cases h0:i=0
      · subst h0;simpa using h
      · simpa [h0,a2i] using h
     by_cases h1:97≤t[i].toNat<;>by_cases h2:t[i].toNat≤122<;>by_cases h4:65≤t[i].toNat<;>by_cases h5:t[i].toNat≤90<;>by_cases h6:t[i].toNat=95<;>first
      | (exfalso;omega)
      | (simp [num,tx,b9,j4,h3,e1,e2,e3,e4,e5,h1,h2,h4,h5,h6]
         refine c0f t i t.length t[i] (a0u t[i]) _ (by simp [tx]) (by simp [num]) (by simp [rvb,h6]) (by simp [a0u,M7,isUp,e1,e2,e3,e4,e5,h1,h2,h4,h5,h6]) (by simp [num]) (by simp [num]) (fun hh st' q0 q11 q12=>?_) (fun hh st' q2=>?_)
         · simp [q12,num]
           refine LoopNext.mk (i+1) ⟨by omega,by rw [hstep];exact hg hh⟩ (by omega) (Le.mk _ _ ?_ ?_)
           · simp [q0,q11,num];exact wrap_i64 (by omega) (by omega)
           · simp
         · have:a0m t=false:=by rw [hw];exact A1 (hb hh)
           simp [q2,this])
   · have e:i=t.length:=by omega
     subst e
     rw [List.take_length] at hall
     simp [hw,hall]
end Go.Proofs
end
