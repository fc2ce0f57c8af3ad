/- Ea: merged out of KLb, KIa, KIb, KIc, KId, KIe, KIt. -/
import Derived.Test.YtgdapgcjmfeocaaGreatDoorAc
import Derived.Test.YtgdapgcjmfeocaaGreatDoorShelf
import Derived.Test.YtgdapgcjmfeocaaGreatDoorCa
import Derived.Test.YtgdapgcjmfeocaaGreatDoorBa
import Derived.Test.YtgdapgcjmfeocaaGreatDoorProg
import Derived.WalkKit
import Derived.Laws.IdiomStrings
set_option linter.unusedSectionVars false
set_option linter.unusedSimpArgs false
set_option linter.unusedVariables false
set_option maxRecDepth 100000
section
namespace Go.KP
theorem index_lfind (s:Tx) (c:UInt8):Lib.indexByte s c=if c∈s then (lfind s c:Int) else -1:=by
 induction s with
 | nil=>simp [Lib.indexByte]
 | cons b l ih=>
  unfold Lib.indexByte
  by_cases h:b=c
  · subst h
    simp [lfind,List.findIdx_cons]
  · have h':(b == c)=false:=by simpa using h
    have h2:lfind (b :: l) c=lfind l c+1:=by simp [lfind,List.findIdx_cons,h']
    rw [h',ih,h2]
    by_cases hm:c∈l
    · have hm':c∈b :: l:=List.mem_cons_of_mem _ hm
      rw [if_pos hm,if_pos hm']
      have:(((lfind l c:Nat):Int) == -1)=false:=by rw [beq_eq_false_iff_ne];omega
      rw [this];simp
    · have hm':¬ c∈b :: l:=by simp [hm];exact fun e=>h e.symm
      rw [if_neg hm,if_neg hm']
      simp
theorem cut_lcut (s:Tx) (c:UInt8):Lib.cut s [c]=(lcutA s c,lcutB s c,decide (c∈s)):=by
 unfold Lib.cut
 rw [Lib.index_one,index_lfind]
 by_cases h:c∈s
 · rw [if_pos h,if_pos (by omega)]
   simp [lcutA,lcutB,h]
 · rw [if_neg h,if_neg (by omega),lcutA_none h,lcutB_none h]
   simp [h]
theorem containsAny_eq (s wo:Tx):Lib.containsAny s wo=lhasAny s wo:=by
 unfold Lib.containsAny
 induction s with
 | nil=>simp [Lib.indexAny,lhasAny]
 | cons b l ih=>
  have e:lhasAny (b :: l) wo=(decide (b∈wo) || lhasAny l wo):=rfl
  rw [e,← ih]
  rw [show Lib.indexAny (b :: l) wo=if wo.contains b then 0 else if Lib.indexAny l wo == -1 then -1 else Lib.indexAny l wo+1 from rfl]
  have hc:wo.contains b=decide (b∈wo):=by rw [Bool.eq_iff_iff];simp
  have hge:=Lib.indexAny_ge wo l
  rw [hc]
  by_cases h:b∈wo
  · simp [h]
  · simp only [h,decide_false,Bool.false_or,if_false,Bool.false_eq_true]
    by_cases h2:Lib.indexAny l wo=-1
    · simp [h2]
    · have h2':(Lib.indexAny l wo == -1)=false:=by simpa using h2
      rw [h2']
      simp only [Bool.false_eq_true,if_false]
      rw [decide_eq_true (by omega),decide_eq_true (by omega)]
theorem decDigits_ldig (n:Nat):Lib.decDigits n=ldig n:=by
 induction n using Nat.strongRecOn with
 | ind n ih=>
  rw [Lib.decDigits]
  by_cases h:n < 10
  · rw [dif_pos h,ldig_lt h]
  · rw [dif_neg h,ldig_ge h,ih _ (by omega)]
theorem itoa_ldec (n:Int):Lib.itoa n=ldec n:=by
 unfold Lib.itoa ldec
 split
 · rw [decDigits_ldig];congr 2;omega
 · rw [decDigits_ldig]
end Go.KP
namespace Go.Proofs
open Go.PW Go.KP Go.RowKit
class GH extends GF where
 m:Int
 hm:(0,0,Value.int .i64 m)∈gs
 T10:TypeId
 z10:Nat×Nat
 h10:(3,Obj.cells (Lib.pow10Tab.map fun z=>Value.int .u64 z).toArray T10 z10)∈bs
 ts:TypeId
 ps:Value
 hs:(1,0,Value.iface ts ps)∈gs
 tr:TypeId
 pr:Value
 hr:(2,0,Value.iface tr pr)∈gs
variable [GH]
theorem bs_list (t:Tx):(bs t).data.toList=t:=by simp [bs]
theorem below_drawn {B:Nat} (w:World) (n:Nat):Below B w (w.drewN n):=⟨rfl,rfl,rfl,Nat.le_refl _,fun _ _=>rfl⟩
theorem below_grow {B:Nat} (w:World) (os:Array Obj) (h:B≤w.heap.size):Below B w (Go.Sort.grow w os):=
 ⟨rfl,rfl,rfl,by simp [Go.Sort.grow],fun k hk=>by simp [Go.Sort.grow,Array.getElem?_append,Nat.lt_of_lt_of_le hk h]⟩
theorem c_Cut (t:Tx) (c:UInt8) (ht:t.length < 4294967281):CallOK Tryz.prog 238 [.val (tx t),.val (tx [c])] (.ret (.tup [.val (tx (lcutA t c)),.val (tx (lcutB t c)),.val (.bool (decide (c∈t)))]) []) []:=by
 refine callOK_tup (rs:=[tx t,tx [c]]) (qs:=[tx (lcutA t c),tx (lcutB t c),.bool (decide (c∈t))]) (vals:=[.string (bs t),.string (bs [c])]) (us:=[.string (bs (lcutA t c)),.string (bs (lcutB t c)),.bool (decide (c∈t))]) rfl rfl fun L w hgl hgb=>?_
 refine (Tryz.strings_Cut (bs t) (bs [c]) GH.m w (by rw [bs_size];exact ht) (hgl _ GH.hm).2).mono fun e w' ⟨he,n,hw⟩=>?_
 rw [bs_list,bs_list,cut_lcut] at he
 exact ⟨he,hw ▸ below_drawn w n⟩
theorem c_CutPrefix (t p:Tx):CallOK Tryz.prog 241 [.val (tx t),.val (tx p)] (.ret (.tup [.val (tx (if p.isPrefixOf t then t.drop p.length else t)),.val (.bool (p.isPrefixOf t))]) []) []:=by
 refine callOK_tup (rs:=[tx t,tx p]) (qs:=[tx (if p.isPrefixOf t then t.drop p.length else t),.bool (p.isPrefixOf t)]) (vals:=[.string (bs t),.string (bs p)]) (us:=[.string (bs (if p.isPrefixOf t then t.drop p.length else t)),.bool (p.isPrefixOf t)]) rfl rfl fun L w hgl hgb=>?_
 refine (Tryz.strings_CutPrefix (bs t) (bs p) w).mono fun e w' ⟨he,hw⟩=>?_
 rw [bs_list,bs_list] at he
 exact ⟨he,below_same hw⟩
theorem c_IndexByte (t:Tx) (c:UInt8):CallOK Tryz.prog 234 [.val (tx t),.val (rvb c)] (.ret (.val (num (if c∈t then (lfind t c:Int) else -1))) []) []:=by
 refine callOK_one (rs:=[tx t,rvb c]) (vals:=[.string (bs t),.int .u8 c.toNat]) (v:=.int .i64 (if c∈t then (lfind t c:Int) else -1)) rfl rfl fun L w hgl hgb=>?_
 refine (Tryz.strings_IndexByte (bs t) c.toNat w).mono fun e w' ⟨he,hw⟩=>?_
 rw [bs_list,Lib.byte_back,index_lfind] at he
 exact ⟨he,below_same hw⟩
theorem c_HasPrefix (t p:Tx):CallOK Tryz.prog 250 [.val (tx t),.val (tx p)] (.ret (.val (.bool (p.isPrefixOf t))) []) []:=by
 refine callOK_one (rs:=[tx t,tx p]) (vals:=[.string (bs t),.string (bs p)]) (v:=.bool (p.isPrefixOf t)) rfl rfl fun L w hgl hgb=>?_
 refine (Tryz.strings_HasPrefix (bs t) (bs p) w).mono fun e w' ⟨he,hw⟩=>?_
 rw [bs_list,bs_list] at he
 exact ⟨he,below_same hw⟩
theorem c_Contains (t:Tx) (c:UInt8):CallOK Tryz.prog 251 [.val (tx t),.val (tx [c])] (.ret (.val (.bool (decide (c∈t)))) []) []:=by
 refine callOK_one (rs:=[tx t,tx [c]]) (vals:=[.string (bs t),.string (bs [c])]) (v:=.bool (decide (c∈t))) rfl rfl fun L w hgl hgb=>?_
 refine (Tryz.strings_Contains_one (bs t) c w).mono fun e w' ⟨he,hw⟩=>?_
 rw [bs_list,index_lfind] at he
 have e1:decide (0≤(if c∈t then (lfind t c:Int) else -1))=decide (c∈t):=by
  by_cases h:c∈t
  · rw [if_pos h,decide_eq_true h,decide_eq_true (by omega)]
  · rw [if_neg h,decide_eq_false h];rfl
 rw [e1] at he
 exact ⟨he,below_same hw⟩
theorem ascii_shown {t:Tx} (h:lshown t=true):∀ (j:Nat) b,(bs t).data.toList[j]?=some b→b.toNat < 128:=fun j b hb=>by
 rw [bs_list] at hb
 unfold lshown at h
 rw [List.all_eq_true] at h
 have:=h b (List.mem_of_getElem? hb)
 simp at this
 omega
theorem c_ContainsAny (t wo:Tx) (ht:t.length < 4294967281) (hw:wo.length < 4294967281) (h1:lshown t=true) (h2:lshown wo=true):CallOK Tryz.prog 161 [.val (tx t),.val (tx wo)] (.ret (.val (.bool (lhasAny t wo))) []) []:=by
 refine callOK_one (rs:=[tx t,tx wo]) (vals:=[.string (bs t),.string (bs wo)]) (v:=.bool (lhasAny t wo)) rfl rfl fun L w hgl hgb=>?_
 refine (Tryz.strings_ContainsAny_laid (bs t) (bs wo) w (by rw [bs_size];exact ht) (by rw [bs_size];exact hw) (ascii_shown h1) (ascii_shown h2)).mono fun e w' ⟨he,hw⟩=>?_
 rw [bs_list,bs_list,containsAny_eq] at he
 exact ⟨he,hw⟩
theorem c_Itoa (n:Int) (h0:-9223372036854775808≤n) (h1:n≤9223372036854775807):CallOK Tryz.prog 244 [.val (num n)] (.ret (.val (tx (ldec n))) []) []:=by
 refine callOK_one (rs:=[num n]) (vals:=[.int .i64 n]) (v:=.string (bs (ldec n))) rfl rfl fun L w hgl hgb=>?_
 have htab:Lib.TabIs Tryz.prog w "internal/strconv.uint64pow10" .u64 Lib.pow10Tab:=by
  unfold Lib.TabIs World.var?
  have e:Tryz.prog.globalNamed "internal/strconv.uint64pow10" = some 3:=by kernel_rfl
  rw [e]
  simp only [Option.bind_some]
  rw [(hgb _ GH.h10).2]
 refine (Tryz.strconv_Itoa n h0 h1 w htab).mono fun e w' ⟨he,k,os,hw⟩=>?_
 rw [itoa_ldec] at he
 exact ⟨he,hw ▸ (below_drawn w k).trans (below_grow _ _ (Nat.le_refl _))⟩
end Go.Proofs
end
section
namespace Go.Proofs
open Go.PW Go.KP
attribute [local simp] RV.cells RV.one PV.cells PV.solid PV.one vals? allVal mkAgg setAt RV.ofCells elems PV.killL
section
variable [GF]
theorem i_within (a lo hi:Int):CallOK Tryz.prog 60 [.val (num a),.val (num lo),.val (num hi)] (.ret (.val (.bool (decide (lo≤a∧a≤hi)))) []) []:=by
 refine call_val mixed ok60 rfl (fun _=>rfl) ?_
 unfold ir60
 rw [evalC_intro]
 by_cases h:lo≤a
 · simp [initSt,avPVs,avPV,avBoxesL,avBoxes,num,h]
 · simp [initSt,avPVs,avPV,avBoxesL,avBoxes,num,h]
theorem i_isNow (n:Int):CallOK Tryz.prog 81 [.val (num n)] (.ret (.val (.bool (decide (0≤n∧n≤1000000)))) []) []:=by
 refine call_val mixed ok81 rfl (fun _=>rfl) ?_
 unfold ir81
 rw [evalC_intro]
 simp [initSt,avPVs,avPV,avBoxesL,avBoxes,num]
 refine callS_val rfl rfl (.inl rfl) (i_within n 0 1000000) ?_
 simp
theorem i_unless (b:Bool) (n:Int):CallOK Tryz.prog 59 [.val (.bool b),.val (num n)] (.ret (.val (num (if b then 0 else n))) []) []:=by
 refine call_val mixed ok59 rfl (fun _=>rfl) ?_
 unfold ir59
 rw [evalC_intro]
 cases b<;>simp [initSt,avPVs,avPV,avBoxesL,avBoxes,num]
theorem i_long (t:Tx):CallOK Tryz.prog 225 [.val (tx t)] (.ret (.val (num (if t.length≤65536 then 0 else 2))) []) []:=by
 refine call_val mixed ok225 rfl (fun _=>rfl) ?_
 unfold ir225
 rw [evalC_intro]
 have e:decide ((t.length:Int)≤65536)=decide (t.length≤65536):=by
  by_cases h:t.length≤65536
  · rw [decide_eq_true h,decide_eq_true (by omega)]
  · rw [decide_eq_false h,decide_eq_false (by omega)]
 simp [initSt,avPVs,avPV,avBoxesL,avBoxes,tx,bs_size,e]
 refine callS_val rfl rfl (.inl rfl) (i_unless (decide (t.length≤65536)) 2) ?_
 simp [num]
theorem i_isLower (c:UInt8):CallOK Tryz.prog 196 [.val (rvb c)] (.ret (.val (.bool (isLow c))) []) []:=by
 refine call_val mixed ok196 rfl (fun _=>rfl) ?_
 unfold ir196
 rw [evalC_intro]
 have e1:((97:Int)≤c.toNat)↔97≤c.toNat:=by omega
 have e2:((c.toNat:Int)≤122)↔c.toNat≤122:=by omega
 by_cases h:97≤c.toNat
 · simp [initSt,avPVs,avPV,avBoxesL,avBoxes,rvb,isLow,h,e1,e2]
 · simp [initSt,avPVs,avPV,avBoxesL,avBoxes,rvb,isLow,h,e1,e2]
theorem i_isDigit (c:UInt8):CallOK Tryz.prog 257 [.val (rvb c)] (.ret (.val (.bool (isDig c))) []) []:=by
 refine call_val mixed ok257 rfl (fun _=>rfl) ?_
 unfold ir257
 rw [evalC_intro]
 have e1:((48:Int)≤c.toNat)↔48≤c.toNat:=by omega
 have e2:((c.toNat:Int)≤57)↔c.toNat≤57:=by omega
 by_cases h:48≤c.toNat
 · simp [initSt,avPVs,avPV,avBoxesL,avBoxes,rvb,isDig,h,e1,e2]
 · simp [initSt,avPVs,avPV,avBoxesL,avBoxes,rvb,isDig,h,e1,e2]
theorem i_web (u:LUrl):CallOK Tryz.prog 201 [.val (rvUrl u)] (.ret (.val (.bool (lweb u.scheme))) []) []:=by
 refine call_val mixed ok201 rfl (fun _=>rfl) ?_
 unfold ir201
 rw [evalC_intro]
 have e1:(⟨#[104,116,116,112]⟩:ByteArray)=bs sHttp:=rfl
 have e2:(⟨#[104,116,116,112,115]⟩:ByteArray)=bs sHttps:=rfl
 by_cases h:u.scheme=sHttp
 · simp [initSt,avPVs,avPV,avBoxesL,avBoxes,rvUrl,tx,num,e1,e2,bs_inj,lweb,h]
 · by_cases h':u.scheme=sHttps
   · simp [initSt,avPVs,avPV,avBoxesL,avBoxes,rvUrl,tx,num,e1,e2,bs_inj,lweb,h',show ¬ sHttps=sHttp by decide]
   · simp [initSt,avPVs,avPV,avBoxesL,avBoxes,rvUrl,tx,num,e1,e2,bs_inj,lweb,h,h']
theorem i_usual (t:Tx):CallOK Tryz.prog 243 [.val (tx t)] (.ret (.val (num (lusual t))) []) []:=by
 refine call_val mixed ok243 rfl (fun _=>rfl) ?_
 unfold ir243
 rw [evalC_intro]
 have e1:(⟨#[104,116,116,112]⟩:ByteArray)=bs sHttp:=rfl
 by_cases h:t=sHttp
 · simp [initSt,avPVs,avPV,avBoxesL,avBoxes,tx,e1,bs_inj,lusual,h,num]
 · simp [initSt,avPVs,avPV,avBoxesL,avBoxes,tx,e1,bs_inj,lusual,h,num]
theorem i_areShown (t:Tx) (ht:t.length < 1099511627776):CallOK Tryz.prog 248 [.val (tx t)] (.ret (.val (.bool (lshown t))) []) []:=by
 refine call_val mixed ok248 rfl (fun _=>rfl) ?_
 unfold ir248
 rw [evalC_intro]
 simp [initSt,avPVs,avPV,avBoxesL,avBoxes,tx,bs_size]
 refine loop_EC (X:=Nat) (fun i=>⟨envOf [(0,.val (tx t)),(5,.val (num t.length)),(6,.val (num i))],memOf []⟩) (fun i=>i≤t.length∧lshown (t.take i)=true) (fun i=>t.length - i) 0 (Le.mk _ _ ?_ ?_) ?_ ?_
 · simp [upd,num,tx]
 · simp
 · simp [lshown]
 · rintro i ⟨hi,hinv⟩
   simp [num,tx]
   refine iteP_intro (fun h1=>?_) (fun h1=>?_)
   · simp [tx,num,bs_size,byteAt_bs,h1]
     have hw:IntKind.i64.wrap (t[i].toNat:Int)=(t[i].toNat:Int):=wrap_i64 (by omega) (by have:=t[i].toNat_lt;omega)
     refine callS_val rfl rfl (.inl rfl) (by rw [hw];exact i_within (t[i].toNat:Int) 33 126) ?_
     have e:decide ((33:Int)≤(t[i].toNat:Int)∧(t[i].toNat:Int)≤126)=decide (33≤t[i].toNat∧t[i].toNat≤126):=by
      by_cases h:33≤t[i].toNat∧t[i].toNat≤126
      · rw [decide_eq_true h,decide_eq_true (by omega)]
      · rw [decide_eq_false h,decide_eq_false (by omega)]
     rw [e]
     have hs:lshown (t.take (i+1))=(lshown (t.take i) && decide (33≤t[i].toNat∧t[i].toNat≤126)):=all_take_succ _ _ _ h1
     cases hd:decide (33≤t[i].toNat∧t[i].toNat≤126) with
     | true=>
      simp
      refine LoopNext.mk (i+1) ⟨by omega,?_⟩ (by omega) (Le.mk _ _ ?_ ?_)
      · rw [hs,hinv,hd];rfl
      · simp [num,tx];exact wrap_i64 (by omega) (by omega)
      · simp
     | false=>
      have:lshown t=false:=by
       unfold lshown
       rw [List.all_eq_false]
       exact ⟨t[i],List.getElem_mem h1,by rw [hd];simp⟩
      rw [this]
      simp
   · have e:i=t.length:=by omega
     subst e
     rw [List.take_length] at hinv
     simp [hinv]
def sch18 (i:Nat) (c:UInt8):Bool:=decide (i=0) || (!isDig c && !decide (c.toNat=45) && !decide (c.toNat=43) && !decide (c.toNat=46))
theorem sch_eq (i:Nat) (c:UInt8):(!isLow c && sch18 i c)=!(if i=0 then isLow c else schByte c):=by
 unfold sch18 schByte
 have e:decide (c.toNat=45∨c.toNat=43∨c.toNat=46)=(decide (c.toNat=45) || decide (c.toNat=43) || decide (c.toNat=46)):=by
  by_cases h1:c.toNat=45<;>by_cases h2:c.toNat=43<;>by_cases h3:c.toNat=46<;>simp [h1,h2,h3]
 rw [e]
 by_cases h:i=0
 · simp [h]
 · simp only [h,decide_false,Bool.false_or,if_false]
   cases isLow c<;>cases isDig c<;>cases decide (c.toNat=45)<;>cases decide (c.toNat=43)<;>cases decide (c.toNat=46)<;>rfl
structure SS (st:St) (t:Tx) (i m:Nat) (c:UInt8):Prop where
 e0:st.env 0=.val (tx t)
 e3:st.env 3=.val (num i)
 e4:st.env 4=.val (rvb c)
 e7:st.env 7=.val (num m)
 e8:st.env 8=.val (num i)
theorem sops18 {Ks:Kx (St→Prop)} {kx:Kx (RV→St→Prop)} {st:St} {t:Tx} {i m:Nat} {c:UInt8} {b:Bool} (h:SS st t i m c) (hb:st.env 17=.val (.bool b)) (hK:∀ st',SS st' t i m c→st'.env 37=.val (.bool (b && sch18 i c))→Ks.k st'):EO Tryz.prog ir247_o18 st (Ks:=Ks) (kx:=kx):=by
 unfold ir247_o18
 cases b with
 | false=>
  simp [hb]
  refine hK _ ⟨?_,?_,?_,?_,?_⟩ ?_<;>simp [h.e0,h.e3,h.e4,h.e7,h.e8]
 | true=>
  by_cases h0:i=0
  · subst h0
    simp [hb,h.e3,num]
    refine hK _ ⟨?_,?_,?_,?_,?_⟩ ?_<;>simp [h.e0,h.e3,h.e4,h.e7,h.e8,sch18]
  · simp [hb,h.e3,h.e4,num,h0,rvb]
    refine callS_val rfl rfl (.inl rfl) (i_isDigit c) ?_
    have e3:((c.toNat:Int)=45)↔c.toNat=45:=by omega
    have e4:((c.toNat:Int)=43)↔c.toNat=43:=by omega
    have e5:((c.toNat:Int)=46)↔c.toNat=46:=by omega
    cases hd:isDig c with
    | true=>
     simp [hb,h.e3,h.e4,rvb,h0]
     refine hK _ ⟨?_,?_,?_,?_,?_⟩ ?_<;>simp [h.e0,h.e3,h.e4,h.e7,h.e8,sch18,h0,hd,num,rvb]
    | false=>
     by_cases h1:c.toNat=45
     · simp [hb,h.e3,h.e4,rvb,h0,e3,e4,e5,h1]
       refine hK _ ⟨?_,?_,?_,?_,?_⟩ ?_<;>simp [h.e0,h.e3,h.e4,h.e7,h.e8,sch18,h0,hd,h1,num,rvb]
     · by_cases h2:c.toNat=43
       · simp [hb,h.e3,h.e4,rvb,h0,e3,e4,e5,h1,h2]
         refine hK _ ⟨?_,?_,?_,?_,?_⟩ ?_<;>simp [h.e0,h.e3,h.e4,h.e7,h.e8,sch18,h0,hd,h1,h2,num,rvb]
       · by_cases h3:c.toNat=46
         · simp [hb,h.e3,h.e4,rvb,h0,e3,e4,e5,h1,h2,h3]
           refine hK _ ⟨?_,?_,?_,?_,?_⟩ ?_<;>simp [h.e0,h.e3,h.e4,h.e7,h.e8,sch18,h0,hd,h1,h2,h3,num,rvb]
         · have e3':¬ ((c.toNat:Int)=45):=by omega
           have e4':¬ ((c.toNat:Int)=43):=by omega
           have e5':¬ ((c.toNat:Int)=46):=by omega
           simp [hb,h.e3,h.e4,rvb,h0,e3,e4,e5,h1,h2,h3]
           refine hK _ ⟨?_,?_,?_,?_,?_⟩ ?_<;>simp [h.e0,h.e3,h.e4,h.e7,h.e8,sch18,h0,hd,h1,h2,h3,num,rvb,e5']
theorem i_isScheme (t:Tx) (ht:t.length < 1099511627776):CallOK Tryz.prog 247 [.val (tx t)] (.ret (.val (.bool (lscheme t))) []) []:=by
 refine call_val mixed ok247 rfl (fun _=>rfl) ?_
 unfold ir247
 rw [evalC_intro]
 have hmn:(if (13:Int) < (t.length:Int) then 13 else (t.length:Int))=((min t.length 13:Nat):Int):=by split<;>omega
 simp [initSt,avPVs,avPV,avBoxesL,avBoxes,tx,bs_size,hmn]
 refine loop_EC (X:=Nat) (fun i=>⟨envOf [(0,.val (tx t)),(7,.val (num (min t.length 13:Nat))),(8,.val (num i))],memOf []⟩) (fun i=>i≤min t.length 13∧schAll (t.take i)=true) (fun i=>t.length - i) 0 (Le.mk _ _ ?_ ?_) ?_ ?_
 · simp [upd,num,tx]
 · simp
 · simp [schAll]
 · rintro i ⟨hi,hinv⟩
   have hib:((i:Int) < ((min t.length 13:Nat):Int))↔i < min t.length 13:=by omega
   unfold ir247_l9
   by_cases h1:i < min t.length 13
   · have h1t:i < t.length:=by omega
     have h1':i < t.length∧i < 13:=by omega
     simp [num,tx,hib,h1,h1'.1,h1'.2,bs_size,byteAt_bs]
     refine callS_val rfl rfl (.inl rfl) (i_isLower t[i]) ?_
     simp
     refine sops18 (t:=t) (i:=i) (m:=min t.length 13) (c:=t[i]) (b:=!isLow t[i]) ⟨?_,?_,?_,?_,?_⟩ ?_ (fun st' q1 q2=>?_)
     · simp [tx]
     · simp [num]
     · simp [rvb]
     · simp [num]
     · simp [num]
     · simp
     · rw [sch_eq] at q2
       simp only [evalC_skip,evalC_reg,evalC_draw,evalC_seq,evalC_cond,evalC_block,evalC_exit,evalC_ret,then_normal,then_exit,then_ret,then_pan,inBlock_normal,inBlock_ret,inBlock_pan,inBlock_exit,condS_bool,evalOps_nil,evalOps_cons,evalX_nil,evalX_cons,guardS_none,guardS_some,setD_some,setD_none,ev_t,ev_k,Option.getD_some,Option.getD_none,stepE_mov,stepE_pick,stepE_alloc,stepE_box,stepE_build,stepE_store,stepE_app,stepE_nilck,stepE_bin,stepE_eqb,stepE_eqs,stepE_un,stepE_conv,stepE_faddr,stepE_fld,stepE_load,stepE_iaddr,stepE_idx,stepE_slc,stepE_ext,stepE_lens,stepE_len,stepE_tostr,stepE_mkfn,stepE_ifc,stepE_mn,stepE_mx,stepE_mx4,stepE_mks,stepE_isnil,stepE_lit,stepE_call,stepE_callv,stepX_mov,stepX_nilck,stepX_bin,stepX_eqb,stepX_eqs,stepX_un,stepX_conv,stepX_faddr,stepX_fld,stepX_load,stepX_iaddr,stepX_idx,stepX_slc,stepX_ext,stepX_lens,stepX_len,stepX_tostr,stepX_mkfn,stepX_ifc,stepX_mn,stepX_mx,stepX_mx4,stepX_pick,stepX_build,stepX_lit,stepX_call,stepX_callv,binS_int,binS_str,binI_add,binI_sub,binI_mul,binI_quo,binI_rem,binI_eql,binI_neq,binI_lss,binI_leq,binI_gtr,binI_geq,binStr_add,binStr_eql,binStr_neq,unS_not,unS_neg,upd_app,envOf_nil,envOf_cons,memOf_nil,memOf_cons,RetP_ret,RetP_normal,resP_t,resP_tt,fin_env,frz_val,frz_emp,frz_own,pl_val,pl_emp,kill_val,kill_own,kill_ptr,kill_emp,kill_elt,kill_at,kill_undef,kill_fn,kill_skip,killM_row,killM_box,killM_dead,Kx_k,fillP_nil,fillP_cons,slc_lo,slc_hi,slc_lohi,slcl_lo,slcl_hi,Option.map_some,Option.map_none,iteP_true,iteP_false,onBool_val,onBool_skip,nilck_ptr,nilck_elt,nilck_at,nilck_fn,eqb_val,eqs_val,conv_val,faddr_ptr,faddr_elt,faddr_at,fld_val,fld_agg,load_ptr,loadBox_box,load_elt,loadRow_row,load_at,iaddr_lst,iaddr_own,iaddrRow_row,idx_val,ext_tup,lens_val,len_val,len_emp,len_own,lenRow_row,tostr_val,tostr_emp,tostr_own,tostrRow_row,ifc_val,mn_val,mx_val,mx4_val,lit_some,fn_fn,mks_val,isnil_nilif,isnil_ifc,isnil_emp,isnil_list,isnil_own,isnilRow_row,store_ptrK,storeBox_box,store_eltK,storeRow_row,add_some,app_own,app_emp,appRow_row,addOf_list,addOf_emp,addOf_own,rowOf_row,q2]
       have hsucc:=schAll_succ t i h1t
       cases hgood:(if i=0 then isLow t[i] else schByte t[i]) with
       | true=>
        refine iteP_intro (fun h=>by simp at h) (fun _=>?_)
        simp [q1.e8,num]
        refine LoopNext.mk (i+1) ⟨by omega,?_⟩ (by omega) (Le.mk _ _ ?_ ?_)
        · rw [hsucc,hinv,hgood];rfl
        · simp [num,tx,q1.e0,q1.e7];exact wrap_i64 (by omega) (by omega)
        · simp
       | false=>
        refine iteP_intro (fun _=>?_) (fun h=>by simp at h)
        have:lscheme t=false:=by
         unfold lscheme
         rw [schAll_false t i h1t hgood,Bool.and_false]
        rw [this]
        simp
   · have e:i=min t.length 13:=by omega
     simp [num,tx,hib,h1,bs_size]
     refine callS_val rfl rfl (.inl rfl) (i_within t.length 1 12) ?_
     have:lscheme t=decide ((1:Int)≤(t.length:Int)∧(t.length:Int)≤12):=by
      unfold lscheme
      by_cases hl:t.length≤12
      · have:i=t.length:=by omega
        subst this
        rw [List.take_length] at hinv
        rw [hinv,Bool.and_true]
        by_cases h0:1≤t.length
        · rw [decide_eq_true (by omega),decide_eq_true (by omega)]
        · rw [decide_eq_false (by omega),decide_eq_false (by omega)]
      · rw [decide_eq_false (by omega),decide_eq_false (by omega)];rfl
     rw [this]
     simp
end
section
variable [GH]
theorem i_decimal (n:Int) (h0:-9223372036854775808≤n) (h1:n≤9223372036854775807):CallOK Tryz.prog 227 [.val (num n)] (.ret (.val (tx (ldec n))) []) []:=by
 refine call_val mixed ok227 rfl (fun _=>rfl) ?_
 unfold ir227
 rw [evalC_intro]
 simp [initSt,avPVs,avPV,avBoxesL,avBoxes,num]
 refine callS_val rfl rfl (.inl rfl) (c_Itoa n h0 h1) ?_
 simp
end
end Go.Proofs
end
section
namespace Go.Proofs
open Go.PW Go.KP
variable [GF]
structure HS (st:St) (t:Tx) (i:Nat) (c:UInt8):Prop where
 e0:st.env 0=.val (tx t)
 e3:st.env 3=.val (num i)
 e4:st.env 4=.val (rvb c)
 e6:st.env 6=.val (num t.length)
 e7:st.env 7=.val (num i)
section
variable {Ks:Kx (St→Prop)} {kx:Kx (RV→St→Prop)} {st:St} {t:Tx} {i:Nat} {c:UInt8} {b:Bool}
def hb44 (t:Tx) (i:Nat):Bool:=decide ((t.getD (i - 1) 0).toNat=46)
theorem hops44 (hi:i < t.length) (hl:t.length < 1099511627776) (h:HS st t i c) (hb:st.env 43=.val (.bool b)) (h0:b=false→i≠0) (hK:∀ st',HS st' t i c→st'.env 49=.val (.bool (b || hb44 t i))→Ks.k st'):EO Tryz.prog ir249_o44 st (Ks:=Ks) (kx:=kx):=by
 unfold ir249_o44
 cases b with
 | true=>
  simp [hb]
  refine hK _ ⟨?_,?_,?_,?_,?_⟩ ?_<;>simp [h.e0,h.e3,h.e4,h.e6,h.e7]
 | false=>
  have hi0:=h0 rfl
  have hw:IntKind.i64.wrap ((i:Int) - 1)=((i - 1:Nat):Int):=by rw [wrap_i64 (by omega) (by omega)];omega
  have hi1:i - 1 < t.length:=by omega
  have e46:((t[i - 1].toNat:Int)=46)↔t[i - 1].toNat=46:=by omega
  by_cases h1:t[i - 1].toNat=46
  · simp [hb,h.e0,h.e3,h.e4,h.e6,h.e7,tx,num,rvb,bs_size,byteAt_bs,hw,hi1,e46,h1]
    refine hK _ ⟨?_,?_,?_,?_,?_⟩ ?_<;>simp [h.e0,h.e3,h.e4,h.e6,h.e7,tx,num,rvb,hb44,List.getElem?_eq_getElem hi1,h1]
  · have h1':((t[i - 1].toNat:Int) == 46)=false:=by simp;omega
    simp [hb,h.e0,h.e3,h.e4,h.e6,h.e7,tx,num,rvb,bs_size,byteAt_bs,hw,hi1,e46,h1,h1']
    refine hK _ ⟨?_,?_,?_,?_,?_⟩ ?_<;>simp [h.e0,h.e3,h.e4,h.e6,h.e7,tx,num,rvb,hb44,List.getElem?_eq_getElem hi1,h1,h1']
def hb37 (t:Tx) (i:Nat):Bool:=decide ((t.getD (i - 1) 0).toNat=45) || hb44 t i
theorem hops37 (hi:i < t.length) (hl:t.length < 1099511627776) (h:HS st t i c) (hb:st.env 36=.val (.bool b)) (h0:b=false→i≠0) (hK:∀ st',HS st' t i c→st'.env 49=.val (.bool (b || hb37 t i))→Ks.k st'):EO Tryz.prog ir249_o37 st (Ks:=Ks) (kx:=kx):=by
 unfold ir249_o37
 cases b with
 | true=>
  simp [hb]
  refine hops44 (b:=true) (t:=t) (i:=i) (c:=c) hi hl ⟨?_,?_,?_,?_,?_⟩ ?_ (by simp) (fun st' q1 q2=>hK st' q1 (by simpa using q2))<;>simp [h.e0,h.e3,h.e4,h.e6,h.e7]
 | false=>
  have hi0:=h0 rfl
  have hw:IntKind.i64.wrap ((i:Int) - 1)=((i - 1:Nat):Int):=by rw [wrap_i64 (by omega) (by omega)];omega
  have hi1:i - 1 < t.length:=by omega
  have e46:((t[i - 1].toNat:Int)=45)↔t[i - 1].toNat=45:=by omega
  by_cases h1:t[i - 1].toNat=45
  · simp [hb,h.e0,h.e3,h.e4,h.e6,h.e7,tx,num,rvb,bs_size,byteAt_bs,hw,hi1,e46,h1]
    refine hops44 (b:=true) (t:=t) (i:=i) (c:=c) hi hl ⟨?_,?_,?_,?_,?_⟩ ?_ (by simp) (fun st' q1 q2=>hK st' q1 (by rw [q2];simp [hb37,List.getElem?_eq_getElem hi1,h1]))<;>simp [h.e0,h.e3,h.e4,h.e6,h.e7,tx,num,rvb]
  · have h1':((t[i - 1].toNat:Int) == 45)=false:=by simp;omega
    simp [hb,h.e0,h.e3,h.e4,h.e6,h.e7,tx,num,rvb,bs_size,byteAt_bs,hw,hi1,e46,h1,h1']
    refine hops44 (b:=false) (t:=t) (i:=i) (c:=c) hi hl ⟨?_,?_,?_,?_,?_⟩ ?_ (fun _=>hi0) (fun st' q1 q2=>hK st' q1 (by rw [q2];simp [hb37,List.getElem?_eq_getElem hi1,h1]))<;>simp [h.e0,h.e3,h.e4,h.e6,h.e7,tx,num,rvb]
def hb30 (t:Tx) (i:Nat):Bool:=decide (i=t.length - 1) || hb37 t i
theorem hops30 (hi:i < t.length) (hl:t.length < 1099511627776) (h:HS st t i c) (hb:st.env 29=.val (.bool b)) (h0:b=false→i≠0) (hK:∀ st',HS st' t i c→st'.env 49=.val (.bool (b || hb30 t i))→Ks.k st'):EO Tryz.prog ir249_o30 st (Ks:=Ks) (kx:=kx):=by
 unfold ir249_o30
 cases b with
 | true=>
  simp [hb]
  refine hops37 (b:=true) (t:=t) (i:=i) (c:=c) hi hl ⟨?_,?_,?_,?_,?_⟩ ?_ (by simp) (fun st' q1 q2=>hK st' q1 (by simpa using q2))<;>simp [h.e0,h.e3,h.e4,h.e6,h.e7]
 | false=>
  have hi0:=h0 rfl
  have hw:IntKind.i64.wrap ((t.length:Int) - 1)=((t.length - 1:Nat):Int):=by rw [wrap_i64 (by omega) (by omega)];omega
  have e:((i:Int) == ((t.length - 1:Nat):Int))=decide (i=t.length - 1):=by
   rw [Bool.eq_iff_iff];simp;omega
  simp only [evalC_skip,evalC_reg,evalC_draw,evalC_seq,evalC_cond,evalC_block,evalC_exit,evalC_ret,then_normal,then_exit,then_ret,then_pan,inBlock_normal,inBlock_ret,inBlock_pan,inBlock_exit,condS_bool,evalOps_nil,evalOps_cons,evalX_nil,evalX_cons,guardS_none,guardS_some,setD_some,setD_none,ev_t,ev_k,Option.getD_some,Option.getD_none,stepE_mov,stepE_pick,stepE_alloc,stepE_box,stepE_build,stepE_store,stepE_app,stepE_nilck,stepE_bin,stepE_eqb,stepE_eqs,stepE_un,stepE_conv,stepE_faddr,stepE_fld,stepE_load,stepE_iaddr,stepE_idx,stepE_slc,stepE_ext,stepE_lens,stepE_len,stepE_tostr,stepE_mkfn,stepE_ifc,stepE_mn,stepE_mx,stepE_mx4,stepE_mks,stepE_isnil,stepE_lit,stepE_call,stepE_callv,stepX_mov,stepX_nilck,stepX_bin,stepX_eqb,stepX_eqs,stepX_un,stepX_conv,stepX_faddr,stepX_fld,stepX_load,stepX_iaddr,stepX_idx,stepX_slc,stepX_ext,stepX_lens,stepX_len,stepX_tostr,stepX_mkfn,stepX_ifc,stepX_mn,stepX_mx,stepX_mx4,stepX_pick,stepX_build,stepX_lit,stepX_call,stepX_callv,binS_int,binS_str,binI_add,binI_sub,binI_mul,binI_quo,binI_rem,binI_eql,binI_neq,binI_lss,binI_leq,binI_gtr,binI_geq,binStr_add,binStr_eql,binStr_neq,unS_not,unS_neg,upd_app,envOf_nil,envOf_cons,memOf_nil,memOf_cons,RetP_ret,RetP_normal,resP_t,resP_tt,fin_env,frz_val,frz_emp,frz_own,pl_val,pl_emp,kill_val,kill_own,kill_ptr,kill_emp,kill_elt,kill_at,kill_undef,kill_fn,kill_skip,killM_row,killM_box,killM_dead,Kx_k,fillP_nil,fillP_cons,slc_lo,slc_hi,slc_lohi,slcl_lo,slcl_hi,Option.map_some,Option.map_none,iteP_true,iteP_false,onBool_val,onBool_skip,nilck_ptr,nilck_elt,nilck_at,nilck_fn,eqb_val,eqs_val,conv_val,faddr_ptr,faddr_elt,faddr_at,fld_val,fld_agg,load_ptr,loadBox_box,load_elt,loadRow_row,load_at,iaddr_lst,iaddr_own,iaddrRow_row,idx_val,ext_tup,lens_val,len_val,len_emp,len_own,lenRow_row,tostr_val,tostr_emp,tostr_own,tostrRow_row,ifc_val,mn_val,mx_val,mx4_val,lit_some,fn_fn,mks_val,isnil_nilif,isnil_ifc,isnil_emp,isnil_list,isnil_own,isnilRow_row,store_ptrK,storeBox_box,store_eltK,storeRow_row,add_some,app_own,app_emp,appRow_row,addOf_list,addOf_emp,addOf_own,rowOf_row,hb,h.e0,h.e3,h.e4,h.e6,h.e7,tx,num,rvb,bs_size,hw,e]
  refine iteP_intro (fun _=>?_) (fun h=>absurd rfl h)
  by_cases h1:i=t.length - 1
  · simp [hb,h.e0,h.e3,h.e4,h.e6,h.e7,tx,num,rvb,bs_size,hw,e,(eq_true h1:(i=t.length - 1)=True)]
    refine hops37 (b:=true) (t:=t) (i:=i) (c:=c) hi hl ⟨?_,?_,?_,?_,?_⟩ ?_ (by simp) (fun st' q1 q2=>hK st' q1 (by rw [q2];simp [hb30,(eq_true h1:(i=t.length - 1)=True)]))<;>simp [h.e0,h.e3,h.e4,h.e6,h.e7,tx,num,rvb]
  · simp [hb,h.e0,h.e3,h.e4,h.e6,h.e7,tx,num,rvb,bs_size,hw,e,h1]
    refine hops37 (b:=false) (t:=t) (i:=i) (c:=c) hi hl ⟨?_,?_,?_,?_,?_⟩ ?_ (fun _=>hi0) (fun st' q1 q2=>hK st' q1 (by rw [q2];simp [hb30,h1]))<;>simp [h.e0,h.e3,h.e4,h.e6,h.e7,tx,num,rvb]
def hb26 (t:Tx) (i:Nat):Bool:=decide (i=0) || hb30 t i
theorem hops26 (hi:i < t.length) (hl:t.length < 1099511627776) (h:HS st t i c) (hb:st.env 25=.val (.bool b)) (hK:∀ st',HS st' t i c→st'.env 49=.val (.bool (b || hb26 t i))→Ks.k st'):EO Tryz.prog ir249_o26 st (Ks:=Ks) (kx:=kx):=by
 unfold ir249_o26
 cases b with
 | true=>
  simp [hb]
  refine hops30 (b:=true) (t:=t) (i:=i) (c:=c) hi hl ⟨?_,?_,?_,?_,?_⟩ ?_ (by simp) (fun st' q1 q2=>hK st' q1 (by simpa using q2))<;>simp [h.e0,h.e3,h.e4,h.e6,h.e7]
 | false=>
  by_cases h1:i=0
  · subst h1
    simp [hb,h.e0,h.e3,h.e4,h.e6,h.e7,tx,num,rvb,bs_size]
    refine hops30 (b:=true) (t:=t) (i:=0) (c:=c) hi hl ⟨?_,?_,?_,?_,?_⟩ ?_ (by simp) (fun st' q1 q2=>hK st' q1 (by rw [q2];simp [hb26]))<;>simp [h.e0,h.e3,h.e4,h.e6,h.e7,tx,num,rvb]
  · simp [hb,h.e0,h.e3,h.e4,h.e6,h.e7,tx,num,rvb,bs_size,h1]
    refine hops30 (b:=false) (t:=t) (i:=i) (c:=c) hi hl ⟨?_,?_,?_,?_,?_⟩ ?_ (fun _=>h1) (fun st' q1 q2=>hK st' q1 (by rw [q2];simp [hb26,h1]))<;>simp [h.e0,h.e3,h.e4,h.e6,h.e7,tx,num,rvb,h1]
end
def hbad (t:Tx) (i:Nat) (c:UInt8):Bool:=(!decide (c.toNat=45) && !decide (c.toNat=46)) || hb26 t i
theorem host_s19 {K:Kx (PExit→St→Prop)} {st:St} {t:Tx} {i:Nat} {c:UInt8} (hi:i < t.length) (hl:t.length < 1099511627776) (h:HS st t i c)
 (hR:hbad t i c=true→∀ st',st'.env 2=.val (.bool false)→K.k .ret st') (hN:hbad t i c=false→∀ st',HS st' t i c→K.k .normal st'):EC Tryz.prog ir249_s19 st (K:=K):=by
 unfold ir249_s19
 have hend:∀ b,b=(!decide (c.toNat=45) && !decide (c.toNat=46))→∀ st':St,HS st' t i c→st'.env 49=.val (.bool (b || hb26 t i)) →
  CD (st'.env 49) (A:=⟨EC Tryz.prog (.seq (.reg [⟨some 2,.mov (.k (.val (.bool false))),none⟩]) .ret) st' (K:=K)⟩) (B:=⟨EC Tryz.prog .skip st' (K:=K)⟩):=by
  intro b hb st' q1 q2
  rw [q2]
  have e:(b || hb26 t i)=hbad t i c:=by rw [hb];rfl
  rw [e]
  cases hbd:hbad t i c with
  | true=>
   simp
   exact hR hbd _ (by simp)
  | false=>
   simp
   exact hN hbd _ q1
 have e3:((c.toNat:Int)=45)↔c.toNat=45:=by omega
 have e5:((c.toNat:Int)=46)↔c.toNat=46:=by omega
 by_cases h1:c.toNat=45
 · simp [h.e0,h.e3,h.e4,h.e6,h.e7,tx,num,rvb,e3,e5,h1]
   refine hops26 (b:=false) (t:=t) (i:=i) (c:=c) hi hl ⟨?_,?_,?_,?_,?_⟩ ?_ (fun st' q1 q2=>hend false (by simp [h1]) st' q1 q2)<;>simp [h.e0,h.e3,h.e4,h.e6,h.e7,tx,num,rvb,h1]
 · by_cases h2:c.toNat=46
   · simp [h.e0,h.e3,h.e4,h.e6,h.e7,tx,num,rvb,e3,e5,h1,h2]
     refine hops26 (b:=false) (t:=t) (i:=i) (c:=c) hi hl ⟨?_,?_,?_,?_,?_⟩ ?_ (fun st' q1 q2=>hend false (by simp [h2]) st' q1 q2)<;>simp [h.e0,h.e3,h.e4,h.e6,h.e7,tx,num,rvb,h2]
   · have h2':((c.toNat:Int) == 46)=false:=by simp;omega
     simp [h.e0,h.e3,h.e4,h.e6,h.e7,tx,num,rvb,e3,e5,h1,h2,h2']
     refine hops26 (b:=true) (t:=t) (i:=i) (c:=c) hi hl ⟨?_,?_,?_,?_,?_⟩ ?_ (fun st' q1 q2=>hend true (by simp [h1,h2]) st' q1 q2)<;>simp [h.e0,h.e3,h.e4,h.e6,h.e7,tx,num,rvb,h1,h2]
     all_goals omega
def plainB (c:UInt8):Bool:=isLow c || isDig c
def lastOf (t:Tx) (i:Nat):Bool:=decide (i=0) || !plainB (t.getD (i - 1) 0)
theorem plain_sign {c:UInt8} (h:c.toNat=45∨c.toNat=46):plainB c=false:=by
 unfold plainB isLow isDig
 rcases h with h | h<;>simp [h]
theorem i_isHost (t:Tx) (ht:t.length < 1099511627776):CallOK Tryz.prog 249 [.val (tx t)] (.ret (.val (.bool (lhost t))) []) []:=by
 refine call_val mixed ok249 rfl (fun _=>rfl) ?_
 unfold ir249
 rw [evalC_intro]
 simp [initSt,avPVs,avPV,avBoxesL,avBoxes,tx,bs_size]
 refine loop_EC (X:=Nat) (fun i=>⟨envOf [(0,.val (tx t)),(6,.val (num t.length)),(7,.val (num i))],memOf []⟩) (fun i=>i≤t.length∧lhost t=lhostFrom (lastOf t i) (t.drop i)∧(0 < i→plainB (t.getD (i - 1) 0)=true∨((t.getD (i - 1) 0).toNat=45∨(t.getD (i - 1) 0).toNat=46)∧i < t.length)) (fun i=>t.length - i) 0 (Le.mk _ _ ?_ ?_) ?_ ?_
 · simp [upd,num,tx]
 · simp
 · simp [lastOf,lhost]
 · rintro i ⟨hi,hinv,hprev⟩
   unfold ir249_l8
   simp [num,tx]
   refine iteP_intro (fun h1=>?_) (fun h1=>?_)
   · have hstep:=lhost_step (lastOf t i) t i h1
     have hg1:t.getD (i+1 - 1) 0=t[i]:=by rw [Nat.add_sub_cancel];exact getD_lt _ _ _ h1
     have hl1:lastOf t (i+1)=!plainB t[i]:=by
      unfold lastOf
      rw [hg1];simp
     have hnext:∀ st':St,st'.env 0=.val (tx t)→st'.env 6=.val (num t.length)→st'.env 7=.val (num ((i:Int)+1))→lhost t=lhostFrom (!plainB t[i]) (t.drop (i+1))→(plainB t[i]=true∨(t[i].toNat=45∨t[i].toNat=46)∧i+1 < t.length) →
      ∃ x',(x'≤t.length∧lhost t=lhostFrom (lastOf t x') (t.drop x')∧(0 < x'→plainB (t.getD (x' - 1) 0)=true∨((t.getD (x' - 1) 0).toNat=45∨(t.getD (x' - 1) 0).toNat=46)∧x' < t.length))∧t.length - x' < t.length - i∧Le st' ⟨envOf [(0,.val (tx t)),(6,.val (num t.length)),(7,.val (num x'))],memOf []⟩:=fun st' q1 q2 q3 q4 q5=>by
      refine ⟨i+1,⟨by omega,by rw [hl1];exact q4,fun _=>by rw [hg1];exact q5⟩,by omega,Le.mk _ _ ?_ ?_⟩
      · simp [q1,q2,q3]
      · simp
     simp [tx,num,bs_size,byteAt_bs,h1]
     refine callS_val rfl rfl (.inl rfl) (i_isLower t[i]) ?_
     have hplain:plainB t[i]=true→lhost t=lhostFrom (!plainB t[i]) (t.drop (i+1)):=fun hp=>by
      rw [hinv,hstep]
      have:(isLow t[i] || isDig t[i])=true:=hp
      rw [this,hp];rfl
     cases hlow:isLow t[i] with
     | true=>
      have hp:plainB t[i]=true:=by unfold plainB;rw [hlow];rfl
      simp
      refine hnext _ ?_ ?_ ?_ (hplain hp) (.inl hp)
      · simp [tx]
      · simp [num]
      · simp [num];exact wrap_i64 (by omega) (by omega)
     | false=>
      simp
      refine callS_val rfl rfl (.inl rfl) (i_isDigit t[i]) ?_
      cases hdig:isDig t[i] with
      | true=>
       have hp:plainB t[i]=true:=by unfold plainB;rw [hdig];simp
       simp
       refine hnext _ ?_ ?_ ?_ (hplain hp) (.inl hp)
       · simp [tx]
       · simp [num]
       · simp [num];exact wrap_i64 (by omega) (by omega)
      | false=>
       have hp:plainB t[i]=false:=by unfold plainB;rw [hlow,hdig];rfl
       have hp':(isLow t[i] || isDig t[i])=false:=hp
       simp
       refine host_s19 (t:=t) (i:=i) (c:=t[i]) h1 ht ⟨?_,?_,?_,?_,?_⟩ (fun hbd st' q=>?_) (fun hbd st' q=>?_)
       · simp [tx]
       · simp [num]
       · simp [rvb]
       · simp [num]
       · simp [num]
       · have:lhost t=false:=by
          rw [hinv,hstep,hp']
          by_cases hcs:t[i].toNat=45∨t[i].toNat=46
          · have hb26':hb26 t i=true:=by
             unfold hbad at hbd
             rcases hcs with h | h<;>simpa [h] using hbd
            have hlast:lastOf t i=true∨i=t.length - 1:=by
             unfold hb26 hb30 hb37 hb44 at hb26'
             simp only [Bool.or_eq_true,decide_eq_true_eq] at hb26'
             rcases hb26' with h | h | h | h
             · left;unfold lastOf;rw [decide_eq_true h];rfl
             · right;exact h
             · left;unfold lastOf;rw [plain_sign (.inl h)];simp
             · left;unfold lastOf;rw [plain_sign (.inr h)];simp
            by_cases hla:lastOf t i=true
            · rw [hla];simp
            · have hei:i=t.length - 1:=hlast.resolve_left hla
              have hd:t.drop (i+1)=[]:=List.drop_eq_nil_of_le (by omega)
              rw [hd]
              cases (lastOf t i || !decide (t[i].toNat=45∨t[i].toNat=46))<;>rfl
          · rw [decide_eq_false hcs];simp
         rw [this]
         simp [q]
       · have hcs:t[i].toNat=45∨t[i].toNat=46:=by
          unfold hbad at hbd
          by_cases h45:t[i].toNat=45
          · exact .inl h45
          · by_cases h46:t[i].toNat=46
            · exact .inr h46
            · simp [h45,h46] at hbd
         have hb26':hb26 t i=false:=by
          unfold hbad at hbd
          rcases hcs with h | h<;>simpa [h] using hbd
         unfold hb26 hb30 hb37 hb44 at hb26'
         simp only [Bool.or_eq_false_iff,decide_eq_false_iff_not] at hb26'
         obtain ⟨k0,k1,k2,k3⟩:=hb26'
         have hla:lastOf t i=false:=by
          unfold lastOf
          rcases hprev (by omega) with h | ⟨h | h,_⟩
          · rw [h,decide_eq_false k0];rfl
          · exact absurd h k2
          · exact absurd h k3
         simp [q.e7,num]
         refine hnext _ ?_ ?_ ?_ ?_ (.inr ⟨hcs,by omega⟩)
         · simp [q.e0]
         · simp [q.e6]
         · simp [num];exact wrap_i64 (by omega) (by omega)
         · rw [hinv,hstep,hp',hla,decide_eq_true hcs,hp];rfl
   · have e:i=t.length:=by omega
     subst e
     have e3:(⟨#[]⟩:ByteArray)=bs []:=rfl
     rw [List.drop_length] at hinv
     have hfin:lhost t=!decide (t=[]):=by
      rw [hinv]
      unfold lastOf
      simp only [lhostFrom]
      by_cases h0:t=[]
      · subst h0;rfl
      · have hpos:0 < t.length:=List.length_pos_iff.2 h0
        rcases hprev hpos with h | ⟨_,h⟩
        · rw [h,decide_eq_false (by omega),decide_eq_false h0];rfl
        · omega
     rw [hfin]
     simp [tx,e3,bs_inj]
end Go.Proofs
end
section
namespace Go.Proofs
open Go.PW Go.KP
attribute [local simp] RV.cells RV.one PV.cells PV.solid PV.one vals? allVal mkAgg setAt RV.ofCells elems PV.killL
variable [GH]
theorem ldec_len (n:Int) (h0:-9223372036854775808≤n) (h1:n≤9223372036854775807):(ldec n).length≤20:=by
 unfold ldec
 split
 · have:=ldig_len10 18 (-n).toNat (by omega)
   simp;omega
 · have:=ldig_len10 18 n.toNat (by omega)
   omega
structure UT (st:St) (u:LUrl) (pre:Tx):Prop where
 e1:st.env 1=.ptr 1 0
 e3:st.env 3=.val (tx pre)
 m1:st.mem 1=.box (urlCells u)
abbrev txt (t:Tx):Kx (PExit→St→Prop):=⟨RetP [.t 2] (.val (tx t))⟩
theorem itext_from7 (u:LUrl) (hs:u.Small) (pre:Tx) (hp:pre.length < 5497558138880) (st:St) (h:UT st u pre) :
 EC Tryz.prog ir202_from7 st (K:=txt (pre++(if u.hasQ then 63 :: u.query else [])++(if u.hasF then 35 :: u.frag else []))):=by
 unfold ir202_from7
 obtain ⟨s1,s2,s3,s4,s5,s6,s7⟩:=hs
 have e5:(⟨#[63]⟩:ByteArray)=bs [63]:=rfl
 have e6:(⟨#[35]⟩:ByteArray)=bs [35]:=rfl
 cases hq:u.hasQ with
 | true=>
  cases hf:u.hasF with
  | true=>
   simp [h.e1,h.e3,h.m1,urlCells,tx,num,bs_size,e5,e6,bs_append,hq,hf]
   omega
  | false=>
   simp [h.e1,h.e3,h.m1,urlCells,tx,num,bs_size,e5,e6,bs_append,hq,hf]
   omega
 | false=>
  cases hf:u.hasF with
  | true=>
   simp [h.e1,h.e3,h.m1,urlCells,tx,num,bs_size,e5,e6,bs_append,hq,hf]
   omega
  | false=>
   simp [h.e1,h.e3,h.m1,urlCells,tx,num,bs_size,e5,e6,bs_append,hq,hf]
def iEnd (u:LUrl):Tx:=u.path++(if u.hasQ then 63 :: u.query else [])++(if u.hasF then 35 :: u.frag else [])
theorem itext_from6 (u:LUrl) (hs:u.Small) (pre:Tx) (hp:pre.length < 4398046511104) (st:St) (h:UT st u pre) :
 EC Tryz.prog ir202_from6 st (K:=txt (pre++iEnd u)):=by
 unfold ir202_from6
 have hs':=hs
 obtain ⟨s1,s2,s3,s4,s5,s6,s7⟩:=hs
 have e:pre++iEnd u=(pre++u.path)++(if u.hasQ then 63 :: u.query else [])++(if u.hasF then 35 :: u.frag else []):=by simp [iEnd]
 rw [e]
 simp [h.e1,h.e3,h.m1,urlCells,tx,num,bs_size,bs_append]
 refine ⟨by omega,?_⟩
 refine itext_from7 u hs' (pre++u.path) (by simp;omega) _ ⟨?_,?_,?_⟩<;>simp [h.e1,h.m1,urlCells,tx]
theorem itext_from5 (u:LUrl) (hs:u.Small) (hp0:-9223372036854775808≤u.port) (pre:Tx) (hp:pre.length < 4398046510080) (st:St) (h:UT st u pre) :
 EC Tryz.prog ir202_from5 st (K:=txt (pre++iportTx u.port++iEnd u)):=by
 unfold ir202_from5
 have e5:(⟨#[58]⟩:ByteArray)=bs [58]:=rfl
 by_cases h0:u.port=0
 · have e:pre++iportTx u.port++iEnd u=pre++iEnd u:=by simp [iportTx,h0]
   rw [e]
   simp [h.e1,h.e3,h.m1,urlCells,tx,num,bs_size,bs_append,h0]
   refine itext_from6 u hs pre (by omega) _ ⟨?_,?_,?_⟩<;>simp [h.e1,h.e3,h.m1,urlCells,tx,num,h0]
 · have e:pre++iportTx u.port++iEnd u=(pre++58 :: ldec u.port)++iEnd u:=by simp [iportTx,h0]
   rw [e]
   simp [h.e1,h.e3,h.m1,urlCells,tx,num,bs_size,bs_append,h0]
   refine callS_val rfl rfl (.inl rfl) (i_decimal u.port hp0 hs.2.2.2.2.2.2) ?_
   have hl:=ldec_len u.port hp0 hs.2.2.2.2.2.2
   simp [tx,num,bs_size,bs_append,e5]
   refine ⟨by omega,by omega,?_⟩
   refine itext_from6 u hs (pre++58 :: ldec u.port) (by simp;omega) _ ⟨?_,?_,?_⟩<;>simp [h.e1,h.e3,h.m1,urlCells,tx,num]
theorem itext_from4 (u:LUrl) (hs:u.Small) (hp0:-9223372036854775808≤u.port) (pre:Tx) (hp:pre.length < 3298534882300) (st:St) (h:UT st u pre) :
 EC Tryz.prog ir202_from4 st (K:=txt (pre++u.host++iportTx u.port++iEnd u)):=by
 unfold ir202_from4
 have hs':=hs
 obtain ⟨s1,s2,s3,s4,s5,s6,s7⟩:=hs
 simp [h.e1,h.e3,h.m1,urlCells,tx,num,bs_size,bs_append]
 refine ⟨by omega,?_⟩
 refine itext_from5 u hs' hp0 (pre++u.host) (by simp;omega) _ ⟨?_,?_,?_⟩<;>simp [h.e1,h.m1,urlCells,tx,num]
theorem itext_from2 (u:LUrl) (hs:u.Small) (hp0:-9223372036854775808≤u.port) (st:St) (e1:st.env 1=.ptr 1 0) (m1:st.mem 1=.box (urlCells u)) :
 EC Tryz.prog ir202_from2 st (K:=txt (u.scheme++[58,47,47]++(if u.user=[] then [] else u.user++[64])++u.host++iportTx u.port++iEnd u)):=by
 unfold ir202_from2
 have hs':=hs
 obtain ⟨s1,s2,s3,s4,s5,s6,s7⟩:=hs
 have q1:(⟨#[58,47,47]⟩:ByteArray)=bs [58,47,47]:=rfl
 have q2:(⟨#[]⟩:ByteArray)=bs []:=rfl
 have q3:(⟨#[64]⟩:ByteArray)=bs [64]:=rfl
 by_cases hu:u.user=[]
 · rw [if_pos hu,List.append_nil]
   simp [e1,m1,urlCells,tx,num,bs_size,bs_append,q1,q2,q3,bs_inj,hu]
   refine ⟨by omega,?_⟩
   refine itext_from4 u hs' hp0 (u.scheme++[58,47,47]) (by simp;omega) _ ⟨?_,?_,?_⟩<;>simp [e1,m1,urlCells,tx,num,hu]
 · rw [if_neg hu]
   simp [e1,m1,urlCells,tx,num,bs_size,bs_append,q1,q2,q3,bs_inj,hu]
   refine ⟨by omega,by omega,by omega,?_⟩
   refine itext_from4 u hs' hp0 (u.scheme++[58,47,47]++(u.user++[64])) (by simp;omega) _ ⟨?_,?_,?_⟩<;>simp [e1,m1,urlCells,tx,num]
theorem i_text (u:LUrl) (hs:u.Small) (hp0:-9223372036854775808≤u.port):CallOK Tryz.prog 202 [.val (rvUrl u)] (.ret (.val (tx (itext u))) []) []:=by
 refine call_val mixed ok202 rfl (fun _=>rfl) ?_
 unfold ir202
 rw [evalC_intro]
 simp [initSt,avPVs,avPV,avBoxesL,avBoxes,rvUrl,tx,num,allVal]
 refine callS_val rfl rfl (.inl rfl) (i_web u) ?_
 have q1:(⟨#[58]⟩:ByteArray)=bs [58]:=rfl
 cases hw:lweb u.scheme with
 | true=>
  simp
  have e:itext u=u.scheme++[58,47,47]++(if u.user=[] then [] else u.user++[64])++u.host++iportTx u.port++iEnd u:=by simp [itext,hw,iEnd]
  rw [e]
  refine itext_from2 u hs hp0 _ ?_ ?_<;>simp [urlCells,tx,num]
 | false=>
  obtain ⟨s1,s2,s3,s4,s5,s6,s7⟩:=hs
  have e:itext u=u.scheme++[58]++u.path:=by simp [itext,hw]
  rw [e]
  simp [tx,bs_size,bs_append,q1]
  omega
end Go.Proofs
end
section
namespace Go.KP
def inum (t:Tx):Int×Bool:=Lib.NumEnd.casesOn (motive:=fun _=>Int×Bool) (Lib.atoiAll t) (fun v=>(v,decide (ndigits t≤18) && decide (ldec v=t))) (0,false) (Lib.atoiSat t,false)
theorem parse_digs:∀ (u:Tx) (acc:Nat),u.all isDig=true→acc*10 ^ u.length+lval u < 1000000000000000000→Lib.parseUint10 acc u=.ok (acc*10 ^ u.length+lval u):=by
 have hlv:∀ (u:Tx) (a:Nat),u.foldl (fun n c=>n*10+(c.toNat - 48)) a=a*10 ^ u.length+lval u:=by
  intro u
  induction u with
  | nil=>intro a;simp [lval]
  | cons c r ih=>
   intro a
   simp only [List.foldl_cons,lval,List.length_cons]
   rw [ih,ih (0*10+(c.toNat - 48)),Nat.pow_succ]
   have:(a*10+(c.toNat - 48))*10 ^ r.length=a*(10 ^ r.length*10)+(c.toNat - 48)*10 ^ r.length:=by
    rw [Nat.add_mul];congr 1;rw [Nat.mul_assoc,Nat.mul_comm 10]
   rw [this];simp [Nat.add_assoc]
 intro u
 induction u with
 | nil=>intro acc _ _;simp [Lib.parseUint10,lval]
 | cons c r ih=>
  intro acc ha hlt
  simp only [List.all_cons,Bool.and_eq_true] at ha
  have hc:=ha.1
  simp only [isDig,decide_eq_true_eq] at hc
  have e:acc*10 ^ (c :: r).length+lval (c :: r)=(acc*10+(c.toNat - 48))*10 ^ r.length+lval r:=by
   rw [← hlv (c :: r) acc,List.foldl_cons,hlv r]
  rw [e] at hlt ⊢
  have hp:1≤10 ^ r.length:=Nat.one_le_pow _ _ (by decide)
  have hb:acc*10+(c.toNat - 48) < 1000000000000000000:=by
   have:=Nat.le_mul_of_pos_right (acc*10+(c.toNat - 48)) hp
   omega
  rw [Lib.parseUint10.eq_2,if_pos hc,if_neg (by omega),if_neg (by omega)]
  exact ih _ ha.2 hlt
theorem inum_eq (t:Tx):(if (inum t).2 then some (inum t).1 else none)=lnumber t:=by
 cases hl:lnumber t with
 | some n=>
  obtain ⟨h1,h2,u,h3,h4,h5,h6⟩:=lnumber_some hl
  have hv:lval u < 1000000000000000000:=by
   have:=lval_lt u h4
   have h7:lval u < 10 ^ 18:=Nat.lt_of_lt_of_le this (Nat.pow_le_pow_right (by omega) h5)
   have h8:(10:Nat) ^ 18=1000000000000000000:=by decide
   omega
  have hpm:Lib.parseMag u=.ok (lval u):=by
   unfold Lib.parseMag
   rw [if_neg h3,parse_digs u 0 h4 (by simpa using hv)]
   simp
  have key:Lib.atoiAll t=.ok n:=by
   unfold Lib.atoiAll
   rcases h6 with ⟨rfl,hn⟩ | ⟨rfl,hn⟩
   · have e45:(45:UInt8).toNat=45:=rfl
     simp only [e45,or_true,if_true,hpm,not_true,false_and,if_false,true_and]
     rw [if_neg (by omega),hn]
   · cases hu:t with
     | nil=>exact absurd hu h3
     | cons c r=>
      have hd:isDig c=true:=by rw [hu,List.all_cons,Bool.and_eq_true] at h4;exact h4.1
      simp only [isDig,decide_eq_true_eq] at hd
      have e1:¬ c.toNat=43:=by omega
      have e2:¬ c.toNat=45:=by omega
      rw [hu] at hpm hn hv
      simp only [e1,e2,or_self,if_false,not_false_eq_true,true_and,false_and]
      rw [hpm]
      dsimp only
      rw [if_neg (by omega),hn]
  unfold inum
  rw [key]
  simp only [h1,decide_true,Bool.and_true]
  rw [decide_eq_true h2];rfl
 | none=>
  rcases hv:Lib.atoiAll t with v | _ | _<;>unfold inum<;>rw [hv]
  · dsimp only
    by_cases h:(decide (ndigits t≤18) && decide (ldec v=t))=true
    · simp only [Bool.and_eq_true,decide_eq_true_eq] at h
      have:=lnumber_ldec v (by rw [h.2];exact h.1)
      rw [h.2,hl] at this
      cases this
    · rw [if_neg h]
  · rfl
  · rfl
theorem atoiAll_range {t:Tx} {v:Int} (h:Lib.atoiAll t=.ok v):-9223372036854775808≤v∧v≤9223372036854775807:=by
 unfold Lib.atoiAll at h
 split at h
 · cases h
 · dsimp only at h
   split at h
   · cases h
   · cases h
   · split at h
     · cases h
     · split at h
       · cases h
       · rename_i u _ h1 h2
         injection h with h
         split at h
         · rename_i h3
           have:¬ 9223372036854775808 < u:=fun h4=>h2 ⟨h3,h4⟩
           omega
         · rename_i h3
           have:¬ 9223372036854775808≤u:=fun h4=>h1 ⟨h3,h4⟩
           omega
theorem inum_le {t:Tx} (h:(inum t).2=true):lnumber t=some (inum t).1:=by
 have:=inum_eq t
 rw [h] at this
 exact this.symm
theorem inum_none {t:Tx} (h:(inum t).2=false):lnumber t=none:=by
 have:=inum_eq t
 rw [h] at this
 exact this.symm
end Go.KP
namespace Go.PW
open Go.RowKit
variable [GF]
theorem callOK_ex {P:Program} {f:Nat} {rs:List RV} {vals:List Value} {p:PV} (ha:svs rs=some vals)
 (h:∀ L w,Globs L w→GBlk L w→Calls P f vals.toArray w fun e w'=>(∃ v,e=.returned v∧∀ γ L,RepP γ L w' p v)∧Below w.heap.size w w'):CallOK P f (rs.map .val) (.ret p []) []:=by
 intro L w vs ms hL hgl hgb hargs hnd
 obtain ⟨rfl,rfl⟩:=args_sv ha hargs
 refine (h L w hgl hgb).mono fun e w' ⟨⟨v,he,hp⟩,hb⟩=>?_
 exact ⟨Outside.of_below hb,v,fun _=>undef,he,hp _ _,memInv_none,rfl,fun i b cells h1 h2=>by simp at h1⟩
end Go.PW
namespace Go.Proofs
open Go.PW Go.KP Go.RowKit
variable [GH]
def atoiRes (t:Tx):PV:=Lib.NumEnd.casesOn (motive:=fun _=>PV) (Lib.atoiAll t) (fun v=>.tup [.val (num v),.val .nilif]) (.tup [.val (num 0),.val (.ifc 278 .opq)]) (.tup [.val (num (Lib.atoiSat t)),.val (.ifc 278 .opq)])
theorem below_bytes (w:World) (t:ByteArray):Below w.heap.size w (Lib.bytesWorld w 5 t):=Lib.bytesWorld_below _ _ _
theorem rep_two {γ:Nat→Value} {L:Nat→Prop} {w:World} {p q:PV} {v u:Value} (h1:RepP γ L w p v) (h2:RepP γ L w q u):RepP γ L w (.tup [p,q]) (.tuple #[v,u]):=
 .tup _ _ rfl fun i hi=>by
  match i,hi with
  | 0,_=>exact h1
  | 1,_=>exact h2
theorem c_Atoi (t:Tx) (ht:t.length < 4294967281):CallOK Tryz.prog 253 [.val (tx t)] (.ret (atoiRes t) []) []:=by
 refine callOK_ex (rs:=[tx t]) (vals:=[.string (bs t)]) rfl fun L w hgl hgb=>?_
 have hsz:(bs t).size=t.length:=bs_size t
 rcases h:Lib.atoiAll t with v | _ | _
 · refine (Tryz.strconv_Atoi_ok (bs t) (by rw [hsz];omega) v (by rw [bs_list];exact h) w).mono fun e w' ⟨he,hw⟩=>?_
   refine ⟨⟨_,he,fun γ L=>?_⟩,?_⟩
   · unfold atoiRes
     rw [h]
     exact rep_two (.val _ _ (.int _ _)) (.val _ _ .nilif)
   · rcases hw with hw | ⟨s,hw⟩
     · exact below_same hw
     · rw [hw];exact below_bytes _ _
 · refine (Calls.mono (Any.strconv_Atoi_syntax Tryz.laysC172 (bs t) (by rw [hsz];omega) (by rw [bs_list];exact h) _ w (hgl _ GH.hs).2 (.inr ⟨_,_,rfl⟩)) fun e w' ⟨N,he,_,_,hw⟩=>?_)
   refine ⟨⟨_,he,fun γ L=>?_⟩,hw⟩
   unfold atoiRes
   rw [h]
   exact rep_two (.val _ _ (.int _ _)) (.val _ _ (.ifc _ _ _ (.opq _ rfl)))
 · refine (Tryz.strconv_Atoi_range (bs t) (by rw [hsz];omega) (by rw [bs_list];exact h) _ w (hgl _ GH.hr).2 (.inr ⟨_,_,rfl⟩)).mono fun e w' ⟨N,he,_,_,hw⟩=>?_
   refine ⟨⟨_,he,fun γ L=>?_⟩,hw⟩
   unfold atoiRes
   rw [h]
   rw [bs_list]
   exact rep_two (.val _ _ (.int _ _)) (.val _ _ (.ifc _ _ _ (.opq _ rfl)))
def inumRes (t:Tx):PV:=.tup [.val (num (inum t).1),.val (.bool (inum t).2)]
theorem number_from4 (t:Tx) (ht:t.length < 4294967281) (st:St) (h0:st.env 0=.val (tx t)) (h6:st.env 6=.val (num (ndigits t)))
 (h45:(∃ v,Lib.atoiAll t=.ok v∧st.env 4=.val (num v)∧st.env 5=.val .nilif)∨(∃ n,(inum t)=(n,false)∧st.env 4=.val (num n)∧st.env 5=.val (.ifc 278 .opq))) :
 EC Tryz.prog ir242_from4 st (K:=⟨RetP [.t 2,.t 3] (inumRes t)⟩):=by
 unfold ir242_from4 inumRes
 rcases h45 with ⟨v,hv,h4,h5⟩ | ⟨n,hn,h4,h5⟩
 · have hr:=atoiAll_range hv
   have e:inum t=(v,decide (ndigits t≤18) && decide (ldec v=t)):=by unfold inum;rw [hv]
   rw [e]
   by_cases hd:ndigits t≤18
   · have hd':(ndigits t:Int)≤18:=by omega
     simp [h0,h4,h5,h6,tx,num,hd']
     refine callS_val rfl rfl (.inl rfl) (c_Itoa v hr.1 hr.2) ?_
     simp [h0,h4,h5,h6,tx,num,bs_inj,hd]
   · have hd':¬ (ndigits t:Int)≤18:=by omega
     simp [h0,h4,h5,h6,tx,num,hd',hd]
 · rw [hn]
   simp [h0,h4,h5,h6,tx,num]
theorem i_number (t:Tx) (ht:t.length < 4294967281):CallOK Tryz.prog 242 [.val (tx t)] (.ret (inumRes t) []) []:=by
 refine call_val mixed ok242 rfl (fun _=>rfl) ?_
 unfold ir242
 rw [evalC_intro]
 have e3:(⟨#[]⟩:ByteArray)=bs []:=rfl
 have hA:=c_Atoi t ht
 simp [initSt,avPVs,avPV,avBoxesL,avBoxes,tx]
 have hmid:∀ (a b:RV),atoiRes t=.tup [.val a,.val b]→((∃ v,Lib.atoiAll t=.ok v∧a=num v∧b=.nilif)∨(∃ n,(inum t)=(n,false)∧a=num n∧b=.ifc 278 .opq)):=by
  intro a b h
  rcases hv:Lib.atoiAll t with v | _ | _
  · have e:atoiRes t=.tup [.val (num v),.val .nilif]:=by unfold atoiRes;rw [hv]
    rw [e] at h
    simp only [PV.tup.injEq,List.cons.injEq,PV.val.injEq] at h
    exact .inl ⟨v,rfl,h.1.symm,h.2.1.symm⟩
  · have e:atoiRes t=.tup [.val (num 0),.val (.ifc 278 .opq)]:=by unfold atoiRes;rw [hv]
    have e2:inum t=(0,false):=by unfold inum;rw [hv]
    rw [e] at h
    simp only [PV.tup.injEq,List.cons.injEq,PV.val.injEq] at h
    exact .inr ⟨0,e2,h.1.symm,h.2.1.symm⟩
  · have e:atoiRes t=.tup [.val (num (Lib.atoiSat t)),.val (.ifc 278 .opq)]:=by unfold atoiRes;rw [hv]
    have e2:inum t=(Lib.atoiSat t,false):=by unfold inum;rw [hv]
    rw [e] at h
    simp only [PV.tup.injEq,List.cons.injEq,PV.val.injEq] at h
    exact .inr ⟨Lib.atoiSat t,e2,h.1.symm,h.2.1.symm⟩
 obtain ⟨a,b,hab⟩:∃ a b,atoiRes t=.tup [.val a,.val b]:=by
  unfold atoiRes
  rcases Lib.atoiAll t with v | _ | _<;>exact ⟨_,_,rfl⟩
 have hm:=hmid a b hab
 rw [hab] at hA
 refine callS_two rfl rfl (.inl rfl) hA ?_
 cases t with
 | nil=>
  simp [tx,bs_size,e3,bs_inj]
  refine number_from4 [] ht _ ?_ ?_ ?_
  · simp [tx]
  · simp [num,ndigits]
  · rcases hm with ⟨v,h1,rfl,rfl⟩ | ⟨n,h1,rfl,rfl⟩
    · exact .inl ⟨v,h1,by simp,by simp⟩
    · exact .inr ⟨n,h1,by simp,by simp⟩
 | cons c r=>
  have hr:r.length < 4294967280:=by simp at ht;omega
  have e0:(0:Int) < ((r.length:Int)+1):=by omega
  have fin:∀ st':St,st'.env 0=.val (tx (c :: r))→st'.env 6=.val (num (ndigits (c :: r)))→st'.env 4=.val a→st'.env 5=.val b→EC Tryz.prog ir242_from4 st' (K:=⟨RetP [.t 2,.t 3] (inumRes (c :: r))⟩):=fun st' q0 q6 q4 q5=>by
   refine number_from4 (c :: r) ht st' q0 q6 ?_
   rcases hm with ⟨v,h1,rfl,rfl⟩ | ⟨n,h1,rfl,rfl⟩
   · exact .inl ⟨v,h1,q4,q5⟩
   · exact .inr ⟨n,h1,q4,q5⟩
  by_cases hc:c=45
  · have e1:((c.toNat:Int)=45):=by rw [hc];rfl
    have hw:IntKind.i64.wrap ((r.length:Int)+1 - 1)=(r.length:Int):=by rw [wrap_i64 (by omega) (by omega)];omega
    simp [tx,bs_size,e3,bs_inj,byteAt_bs,e0,e1,hw]
    refine fin _ ?_ ?_ ?_ ?_
    · simp [tx]
    · simp [num,ndigits,hc];exact wrap_i64 (by omega) (by omega)
    · simp
    · simp
  · have e1:¬ ((c.toNat:Int)=45):=fun h=>hc (UInt8.toNat_inj.1 (by simp;omega))
    simp [tx,bs_size,e3,bs_inj,byteAt_bs,e0,e1]
    refine fin _ ?_ ?_ ?_ ?_
    · simp [tx]
    · simp [num,ndigits,hc]
    · simp
    · simp
end Go.Proofs
end
section
namespace Go.Proofs
open Go.PW Go.KP Go.RowKit
def lowAt (t:Tx) (k j:Nat):UInt8:=if j < k then low1 (t.getD j 0) else t.getD j 0
def LowRel (t:Tx) (B k:Nat) (wr:World):Prop:=
 (∀ j,j < t.length→wr.cell? ⟨B,j,none⟩=some (.int .u8 ((lowAt t k j).toNat:Int)))∧(∀ j,j < t.length→wr.frozen? ⟨B,j,none⟩=false)
theorem lowRel_start (t:Tx) (w:World) (cap:Nat):LowRel t w.heap.size 0 (w.alloc (.cells (bytesRow (bs t) cap) 5 ((bytesRow (bs t) cap).size,(bytesRow (bs t) cap).size+1))):=by
 have hsz:(bs t).data.size=t.length:=by simp [bs]
 refine ⟨fun j hj=>?_,fun j hj=>?_⟩
 · rw [World.cell?_alloc_mark,bytesRow_at (bs t) cap j (by omega)]
   simp [lowAt,bs,hj]
 · rw [World.frozen?_alloc_mark]
   have:t.length≤(bytesRow (bs t) cap).size:=by simp [bytesRow,bs]
   have h2:¬ (bytesRow (bs t) cap).size≤j:=by omega
   simp [h2]
theorem lowRel_hit {t:Tx} {B k:Nat} {wr:World} (hk:k < t.length) (h:LowRel t B k wr) (h1:(65:Int)≤((lowAt t k k).toNat:Int)) (h2:((lowAt t k k).toNat:Int)≤90) :
 LowRel t B (k+1) (wr.setCell ⟨B,k,none⟩ (.int .u8 (((lowAt t k k).toNat:Int)+32))):=by
 have e0:lowAt t k k=t.getD k 0:=by simp [lowAt]
 rw [e0] at h1 h2 ⊢
 refine ⟨fun j hj=>?_,fun j hj=>by rw [World.frozen?_setCell];exact h.2 j hj⟩
 by_cases e:j=k
 · subst e
   rw [World.cell?_setCell_same _ _ _ (h.1 j hj)]
   have:lowAt t (j+1) j=t.getD j 0+32:=by
    simp only [lowAt,Nat.lt_succ_self,if_true,low1]
    rw [if_pos (by omega)]
   rw [this]
   congr 2
   rw [UInt8.toNat_add]
   have e32:(32:UInt8).toNat=32:=rfl
   rw [e32]
   omega
 · rw [World.cell?_setCell_other _ _ _ _ (by simp<;>omega),h.1 j hj]
   have:lowAt t (k+1) j=lowAt t k j:=by
    unfold lowAt
    by_cases hjk:j < k
    · rw [if_pos hjk,if_pos (by omega)]
    · rw [if_neg hjk,if_neg (by omega)]
   rw [this]
theorem lowRel_miss {t:Tx} {B k:Nat} {wr:World} (h:LowRel t B k wr) (h1:¬ ((65:Int)≤((lowAt t k k).toNat:Int)∧((lowAt t k k).toNat:Int)≤90)):LowRel t B (k+1) wr:=by
 have e0:lowAt t k k=t.getD k 0:=by simp [lowAt]
 rw [e0] at h1
 refine ⟨fun j hj=>?_,h.2⟩
 rw [h.1 j hj]
 have:lowAt t (k+1) j=lowAt t k j:=by
  unfold lowAt
  by_cases hjk:j < k
  · rw [if_pos hjk,if_pos (by omega)]
  · by_cases e:j=k
    · subst e
      rw [if_pos (by omega),if_neg (by omega)]
      unfold low1
      rw [if_neg (by omega)]
    · rw [if_neg hjk,if_neg (by omega)]
 rw [this]
theorem lowAt_all {t:Tx} {j:Nat} (hj:j < (llow t).length):lowAt t t.length j=(llow t)[j]:=by
 have hj':j < t.length:=by simpa [llow] using hj
 unfold lowAt
 rw [if_pos hj',getD_lt _ _ _ hj']
 simp [llow]
theorem lowRel_back {t:Tx} {B:Nat} {wr:World} (hR:LowRel t B t.length wr) (cap:Nat):(convert 183 9 (.slice (some ⟨B,0,none⟩) t.length cap)).run Tryz.prog wr=.ok (.string (bs (llow t))) wr:=by
 have hll:(llow t).length=t.length:=by simp [llow]
 have hback:=run_convert_bytes_back (P:=Tryz.prog) wr 183 9 5 ⟨B,0,none⟩ cap (llow t) Tryz.underlying183 Tryz.underlying5 Tryz.underlying9 (fun j hj=>by
  have h1:=hR.1 j (by omega)
  rw [lowAt_all hj] at h1
  have e:(Addr.add ⟨B,0,none⟩ j)=⟨B,j,none⟩:=by simp [Addr.add];omega
  rw [e]
  exact h1)
 rw [hll] at hback
 exact hback
set_option maxRecDepth 1000000 in
theorem lower_walk (t:Tx) (w:World) (hl:t.length < 4294967281) :
 Calls Tryz.prog 239 #[.string (bs t)] w fun e w'=>e=.returned (.string (bs (llow t)))∧Below w.heap.size w w':=by
 have hsz:(bs t).size=t.length:=bs_size t
 have hconv:=run_bytes_of_string (P:=Tryz.prog) w 9 183 5 (bs t) Tryz.underlying9 Tryz.underlying183 Tryz.underlying5
 have hll:(llow t).length=t.length:=by simp [llow]
 go_enter Tryz.func239,Tryz.ntmps239
 go_wp2
 go_loopw [10] (fun i wr=>∃ k:Nat,k≤t.length∧i=.int .i64 k∧LowRel t w.heap.size k wr∧Below w.heap.size w wr)
  (fun i _=>t.length - (intOf i).toNat)
 case atStart=>
  refine ⟨0,Nat.zero_le _,rfl,?_,?_⟩
  · have:=lowRel_start t w (grownCap w t.length 0 5)
    exact ⟨this.1,this.2⟩
  · exact ((Below.refl _ w).alloc (Nat.le_refl _) _).drew
 case round=>
  obtain ⟨k,hk,rfl,hR,hnx⟩:=hrel
  have hck:k < t.length→wr.cell? ⟨w.heap.size,k,none⟩=some (.int .u8 ((lowAt t k k).toNat:Int)):=fun h=>hR.1 k h
  have hfk:k < t.length→wr.frozen? ⟨w.heap.size,k,none⟩=false:=fun h=>hR.2 k h
  go_wp2
  · refine ⟨⟨k+1,by omega,by first | rfl | simp,lowRel_hit (by assumption) hR (by assumption) (by assumption),hnx.setCell (Nat.le_refl _) _⟩,?_⟩
    simp [intOf];omega
  · refine ⟨⟨k+1,by omega,by first | rfl | simp,lowRel_miss hR (by omega),hnx⟩,?_⟩
    simp [intOf];omega
  · refine ⟨⟨k+1,by omega,by first | rfl | simp,lowRel_miss hR (by omega),hnx⟩,?_⟩
    simp [intOf];omega
  · have hkn:k=t.length:=by omega
    subst hkn
    have hback':=lowRel_back (wr:=wr) hR (grownCap w t.length 0 5)
    rw [hback']
    go_wp2
    go_ret
    exact ⟨rfl,hnx⟩
section
variable [GF]
theorem i_lower (t:Tx) (hl:t.length < 4294967281):CallOK Tryz.prog 239 [.val (tx t)] (.ret (.val (tx (llow t))) []) []:=
 callOK_one (rs:=[tx t]) (vals:=[.string (bs t)]) (v:=.string (bs (llow t))) rfl rfl fun L w hgl hgb=>lower_walk t w hl
end
end Go.Proofs
end
section
namespace Go.Proofs
open Go.PW Go.KP
variable [GH]
theorem nameok_s36 {K:Kx (PExit→St→Prop)} (t:Tx) (i n:Nat) (c:UInt8) (b:Bool) (st:St) (e0:st.env 0=.val (tx t)) (e3:st.env 3=.val (num i)) (e4:st.env 4=.val (rvb c)) (e5:st.env 5=.val (.bool b)) (e11:st.env 11=.val (num n)) (e12:st.env 12=.val (num i))
 (hgood:(b || (!decide (i=0) && isDig c))=true→∀ st':St,st'.env 0=.val (tx t)→st'.env 11=.val (num n)→st'.env 12=.val (num i)→K.k .normal st')
 (hbad:(b || (!decide (i=0) && isDig c))=false→∀ st':St,st'.env 2=.val (.bool false)→K.k .ret st') :
 EC Tryz.prog ir137_s36 st (K:=K):=by
 unfold ir137_s36
 cases b with
 | true=>
  simp [e5]
  exact hgood (by simp) _ (by simp [e0]) (by simp [e11]) (by simp [e12])
 | false=>
  by_cases h0:i=0
  · subst h0
    simp [e5,e3,e4,num]
    exact hbad (by simp) _ (by simp)
  · have f1:((c.toNat:Int) < 48)↔c.toNat < 48:=by omega
    have f2:((57:Int) < c.toNat)↔57 < c.toNat:=by omega
    by_cases h1:c.toNat < 48
    · simp [e5,e3,e4,num,rvb,h0,f1,h1]
      exact hbad (by simp [isDig];omega) _ (by simp)
    · by_cases h2:57 < c.toNat
      · simp [e5,e3,e4,num,rvb,h0,f1,h1,f2,h2]
        exact hbad (by simp [isDig];omega) _ (by simp)
      · simp [e5,e3,e4,num,rvb,h0,f1,h1,f2,h2]
        exact hgood (by simp [isDig,h0];omega) _ (by simp [e0]) (by simp [e11,num]) (by simp [e12,num])
theorem i_NameOK (t:Tx) (ht:t.length < 1099511627776):CallOK Tryz.prog 137 [.val (tx t)] (.ret (.val (.bool (lword t))) []) []:=by
 refine call_val mixed ok137 rfl (fun _=>rfl) ?_
 unfold ir137
 rw [evalC_intro]
 simp [initSt,avPVs,avPV,avBoxesL,avBoxes,tx,bs_size]
 refine callS_val rfl rfl (.inl rfl) (i_within t.length 1 12) ?_
 by_cases hlen:1≤t.length∧t.length≤12
 rotate_left
 · rw [show decide ((1:Int)≤t.length∧(t.length:Int)≤12)=false from decide_eq_false (by omega)]
   have:lword t=false:=by unfold lword;rw [decide_eq_false hlen];rfl
   simp [this]
 rw [show decide ((1:Int)≤t.length∧(t.length:Int)≤12)=true from decide_eq_true (by omega)]
 have hw:lword t=headAll isLet isWrd t:=by unfold lword;rw [decide_eq_true hlen];rfl
 simp [bs_size]
 refine loop_EC (X:=Nat) (fun i=>⟨envOf [(0,.val (tx t)),(11,.val (num t.length)),(12,.val (num i))],memOf []⟩) (fun i=>i≤t.length∧headAll isLet isWrd (t.take i)=true) (fun i=>t.length - i) 0 (Le.mk _ _ ?_ ?_) ?_ ?_
 · simp [upd,tx,num]
 · simp
 · simp [headAll]
 · rintro i ⟨hi,hall⟩
   simp [num]
   refine iteP_intro (fun h3=>?_) (fun h3=>?_)
   · have hstep:=headAll_succ (p:=isLet) (q:=isWrd) (fun _ h=>isLet_isWrd h) t i h3
     rw [hall,Bool.true_and] at hstep
     have hbad:=headAll_false (p:=isLet) (q:=isWrd) t i h3
     have e1:((97:Int)≤t[i].toNat)↔97≤t[i].toNat:=by omega
     have e2:((t[i].toNat:Int)≤122)↔t[i].toNat≤122:=by omega
     have e3:((65:Int)≤t[i].toNat)↔65≤t[i].toNat:=by omega
     have e4:((t[i].toNat:Int)≤90)↔t[i].toNat≤90:=by omega
     have e5:((t[i].toNat:Int)=95)↔t[i].toNat=95:=by omega
     have key:∀ (b:Bool) (st':St),b=isLet t[i]→st'.env 0=.val (tx t)→st'.env 3=.val (num i)→st'.env 4=.val (rvb t[i])→st'.env 5=.val (.bool b)→st'.env 11=.val (num t.length)→st'.env 12=.val (num i)→True:=fun _ _ _ _ _ _ _ _ _=>trivial
     have hg:(isLet t[i] || (!decide (i=0) && isDig t[i]))=true→(if i=0 then isLet t[i] else isWrd t[i])=true:=fun h=>by
      by_cases h0:i=0
      · subst h0;simpa using h
      · simpa [h0,isWrd] using h
     have hb:(isLet t[i] || (!decide (i=0) && isDig t[i]))=false→(if i=0 then isLet t[i] else isWrd t[i])=false:=fun h=>by
      by_cases h0:i=0
      · subst h0;simpa using h
      · simpa [h0,isWrd] using h
     by_cases h1:97≤t[i].toNat<;>by_cases h2:t[i].toNat≤122<;>by_cases h4:65≤t[i].toNat<;>by_cases h5:t[i].toNat≤90<;>by_cases h6:t[i].toNat=95<;>first
      | (exfalso;omega)
      | (simp [num,tx,bs_size,byteAt_bs,h3,e1,e2,e3,e4,e5,h1,h2,h4,h5,h6]
         refine nameok_s36 t i t.length t[i] (isLet t[i]) _ (by simp [tx]) (by simp [num]) (by simp [rvb,h6]) (by simp [isLet,isLow,isUp,e1,e2,e3,e4,e5,h1,h2,h4,h5,h6]) (by simp [num]) (by simp [num]) (fun hh st' q0 q11 q12=>?_) (fun hh st' q2=>?_)
         · simp [q12,num]
           refine LoopNext.mk (i+1) ⟨by omega,by rw [hstep];exact hg hh⟩ (by omega) (Le.mk _ _ ?_ ?_)
           · simp [q0,q11,num];exact wrap_i64 (by omega) (by omega)
           · simp
         · have:lword t=false:=by rw [hw];exact hbad (hb hh)
           simp [q2,this])
   · have e:i=t.length:=by omega
     subst e
     rw [List.take_length] at hall
     simp [hw,hall]
end Go.Proofs
end
