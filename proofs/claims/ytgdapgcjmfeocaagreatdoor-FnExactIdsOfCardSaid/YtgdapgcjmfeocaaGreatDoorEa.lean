/- Ea: merged out of KLb, KIa, KIb, KIc, KId, KIe, KIt. -/
import Derived.Test.YtgdapgcjmfeocaaGreatDoorAc
import Derived.Test.YtgdapgcjmfeocaaGreatDoorShelf
import Derived.Test.YtgdapgcjmfeocaaGreatDoorCa
import Derived.Test.YtgdapgcjmfeocaaGreatDoorBa
import Derived.Test.YtgdapgcjmfeocaaGreatDoorProg
import Derived.WalkKit
import Derived.Laws.IdiomStrings
set_option linter.unusedSectionVars false
set_option linter.unusedSimpArgs false
set_option linter.unusedVariables false
set_option maxRecDepth 100000
section
namespace Go.KP
theorem zw (s:Tx) (c:UInt8):Lib.indexByte s c=if c∈s then (kw s c:Int) else -1:=by
 induction s with
 | nil=>simp [Lib.indexByte]
 | cons b l ih=>
  unfold Lib.indexByte
  by_cases h:b=c
  · subst h
    simp [kw,List.findIdx_cons]
  · have h':(b == c)=false:=by simpa using h
    have h2:kw (b :: l) c=kw l c+1:=by simp [kw,List.findIdx_cons,h']
    rw [h',ih,h2]
    by_cases hm:c∈l
    · have hm':c∈b :: l:=List.mem_cons_of_mem _ hm
      rw [if_pos hm,if_pos hm']
      have:(((kw l c:Nat):Int) == -1)=false:=by rw [beq_eq_false_iff_ne];omega
      rw [this];simp
    · have hm':¬ c∈b :: l:=by simp [hm];exact fun e=>h e.symm
      rw [if_neg hm,if_neg hm']
      simp
theorem Xv (s:Tx) (c:UInt8):Lib.cut s [c]=(az s c,ip s c,decide (c∈s)):=by
 unfold Lib.cut
 rw [Lib.index_one,zw]
 by_cases h:c∈s
 · rw [if_pos h,if_pos (by omega)]
   simp [az,ip,h]
 · rw [if_neg h,if_neg (by omega),rp h,Bx h]
   simp [h]
theorem Af (s wo:Tx):Lib.containsAny s wo=ml s wo:=by
 unfold Lib.containsAny
 induction s with
 | nil=>simp [Lib.indexAny,ml]
 | cons b l ih=>
  have e:ml (b :: l) wo=(decide (b∈wo) || ml l wo):=rfl
  rw [e,← ih]
  rw [show Lib.indexAny (b :: l) wo=if wo.contains b then 0 else if Lib.indexAny l wo == -1 then -1 else Lib.indexAny l wo+1 from rfl]
  have hc:wo.contains b=decide (b∈wo):=by rw [Bool.eq_iff_iff];simp
  have hge:=Lib.indexAny_ge wo l
  rw [hc]
  by_cases h:b∈wo
  · simp [h]
  · simp only [h,decide_false,Bool.false_or,if_false,Bool.false_eq_true]
    by_cases h2:Lib.indexAny l wo=-1
    · simp [h2]
    · have h2':(Lib.indexAny l wo == -1)=false:=by simpa using h2
      rw [h2']
      simp only [Bool.false_eq_true,if_false]
      rw [decide_eq_true (by omega),decide_eq_true (by omega)]
theorem Ab (n:Nat):Lib.decDigits n=tz n:=by
 induction n using Nat.strongRecOn with
 | ind n ih=>
  rw [Lib.decDigits]
  by_cases h:n < 10
  · rw [dif_pos h,sj h]
  · rw [dif_neg h,vu h,ih _ (by omega)]
theorem Tw (n:Int):Lib.itoa n=x6 n:=by
 unfold Lib.itoa x6
 split
 · rw [Ab];congr 2;omega
 · rw [Ab]
end Go.KP
namespace Go.Proofs
open Go.PW Go.KP Go.RowKit
class GH extends GF where
 m:Int
 hm:(0,0,Value.int .i64 m)∈gs
 T10:TypeId
 z10:Nat×Nat
 h10:(3,Obj.cells (Lib.pow10Tab.map fun z=>Value.int .u64 z).toArray T10 z10)∈bs
 ts:TypeId
 ps:Value
 hs:(1,0,Value.iface ts ps)∈gs
 tr:TypeId
 pr:Value
 hr:(2,0,Value.iface tr pr)∈gs
variable [GH]
theorem pd (t:Tx):(bs t).data.toList=t:=by simp [bs]
theorem Fk {B:Nat} (w:World) (n:Nat):Below B w (w.drewN n):=⟨rfl,rfl,rfl,Nat.le_refl _,fun _ _=>rfl⟩
theorem Rw {B:Nat} (w:World) (os:Array Obj) (h:B≤w.heap.size):Below B w (Go.Sort.grow w os):=
 ⟨rfl,rfl,rfl,by simp [Go.Sort.grow],fun k hk=>by simp [Go.Sort.grow,Array.getElem?_append,Nat.lt_of_lt_of_le hk h]⟩
theorem Ib (t:Tx) (c:UInt8) (ht:t.length < 4294967281):ag Tryz.prog 238 [.val (tx t),.val (tx [c])] (.ret (.tup [.val (tx (az t c)),.val (tx (ip t c)),.val (.bool (decide (c∈t)))]) []) []:=by
 refine H6 (rs:=[tx t,tx [c]]) (qs:=[tx (az t c),tx (ip t c),.bool (decide (c∈t))]) (vals:=[.string (bs t),.string (bs [c])]) (us:=[.string (bs (az t c)),.string (bs (ip t c)),.bool (decide (c∈t))]) rfl rfl fun L w hgl hgb=>?_
 refine (Tryz.strings_Cut (bs t) (bs [c]) GH.m w (by rw [ae];exact ht) (hgl _ GH.hm).2).mono fun e w' ⟨he,n,hw⟩=>?_
 rw [pd,pd,Xv] at he
 exact ⟨he,hw ▸ Fk w n⟩
theorem Pa (t p:Tx):ag Tryz.prog 241 [.val (tx t),.val (tx p)] (.ret (.tup [.val (tx (if p.isPrefixOf t then t.drop p.length else t)),.val (.bool (p.isPrefixOf t))]) []) []:=by
 refine H6 (rs:=[tx t,tx p]) (qs:=[tx (if p.isPrefixOf t then t.drop p.length else t),.bool (p.isPrefixOf t)]) (vals:=[.string (bs t),.string (bs p)]) (us:=[.string (bs (if p.isPrefixOf t then t.drop p.length else t)),.bool (p.isPrefixOf t)]) rfl rfl fun L w hgl hgb=>?_
 refine (Tryz.strings_CutPrefix (bs t) (bs p) w).mono fun e w' ⟨he,hw⟩=>?_
 rw [pd,pd] at he
 exact ⟨he,wy hw⟩
theorem O8 (t:Tx) (c:UInt8):ag Tryz.prog 234 [.val (tx t),.val (rvb c)] (.ret (.val (num (if c∈t then (kw t c:Int) else -1))) []) []:=by
 refine tq (rs:=[tx t,rvb c]) (vals:=[.string (bs t),.int .u8 c.toNat]) (v:=.int .i64 (if c∈t then (kw t c:Int) else -1)) rfl rfl fun L w hgl hgb=>?_
 refine (Tryz.strings_IndexByte (bs t) c.toNat w).mono fun e w' ⟨he,hw⟩=>?_
 rw [pd,Lib.byte_back,zw] at he
 exact ⟨he,wy hw⟩
theorem O9 (t p:Tx):ag Tryz.prog 250 [.val (tx t),.val (tx p)] (.ret (.val (.bool (p.isPrefixOf t))) []) []:=by
 refine tq (rs:=[tx t,tx p]) (vals:=[.string (bs t),.string (bs p)]) (v:=.bool (p.isPrefixOf t)) rfl rfl fun L w hgl hgb=>?_
 refine (Tryz.strings_HasPrefix (bs t) (bs p) w).mono fun e w' ⟨he,hw⟩=>?_
 rw [pd,pd] at he
 exact ⟨he,wy hw⟩
theorem Ru (t:Tx) (c:UInt8):ag Tryz.prog 251 [.val (tx t),.val (tx [c])] (.ret (.val (.bool (decide (c∈t)))) []) []:=by
 refine tq (rs:=[tx t,tx [c]]) (vals:=[.string (bs t),.string (bs [c])]) (v:=.bool (decide (c∈t))) rfl rfl fun L w hgl hgb=>?_
 refine (Tryz.strings_Contains_one (bs t) c w).mono fun e w' ⟨he,hw⟩=>?_
 rw [pd,zw] at he
 have e1:decide (0≤(if c∈t then (kw t c:Int) else -1))=decide (c∈t):=by
  by_cases h:c∈t
  · rw [if_pos h,decide_eq_true h,decide_eq_true (by omega)]
  · rw [if_neg h,decide_eq_false h];rfl
 rw [e1] at he
 exact ⟨he,wy hw⟩
theorem Fl {t:Tx} (h:nj t=true):∀ (j:Nat) b,(bs t).data.toList[j]?=some b→b.toNat < 128:=fun j b hb=>by
 rw [pd] at hb
 unfold nj at h
 rw [List.all_eq_true] at h
 have:=h b (List.mem_of_getElem? hb)
 simp at this
 omega
theorem Bo (t wo:Tx) (ht:t.length < 4294967281) (hw:wo.length < 4294967281) (h1:nj t=true) (h2:nj wo=true):ag Tryz.prog 161 [.val (tx t),.val (tx wo)] (.ret (.val (.bool (ml t wo))) []) []:=by
 refine tq (rs:=[tx t,tx wo]) (vals:=[.string (bs t),.string (bs wo)]) (v:=.bool (ml t wo)) rfl rfl fun L w hgl hgb=>?_
 refine (Tryz.strings_ContainsAny_laid (bs t) (bs wo) w (by rw [ae];exact ht) (by rw [ae];exact hw) (Fl h1) (Fl h2)).mono fun e w' ⟨he,hw⟩=>?_
 rw [pd,pd,Af] at he
 exact ⟨he,hw⟩
theorem X2 (n:Int) (h0:-9223372036854775808≤n) (h1:n≤9223372036854775807):ag Tryz.prog 244 [.val (num n)] (.ret (.val (tx (x6 n))) []) []:=by
 refine tq (rs:=[num n]) (vals:=[.int .i64 n]) (v:=.string (bs (x6 n))) rfl rfl fun L w hgl hgb=>?_
 have htab:Lib.TabIs Tryz.prog w "internal/strconv.uint64pow10" .u64 Lib.pow10Tab:=by
  unfold Lib.TabIs World.var?
  have e:Tryz.prog.globalNamed "internal/strconv.uint64pow10" = some 3:=by kernel_rfl
  rw [e]
  simp only [Option.bind_some]
  rw [(hgb _ GH.h10).2]
 refine (Tryz.strconv_Itoa n h0 h1 w htab).mono fun e w' ⟨he,k,os,hw⟩=>?_
 rw [Tw] at he
 exact ⟨he,hw ▸ (Fk w k).trans (Rw _ _ (Nat.le_refl _))⟩
end Go.Proofs
end
section
namespace Go.Proofs
open Go.PW Go.KP
attribute [local simp] RV.cells RV.one PV.cells PV.solid PV.one im ao kh ke RV.ofCells elems PV.killL
section
variable [GF]
theorem mc (a lo hi:Int):ag Tryz.prog 60 [.val (num a),.val (num lo),.val (num hi)] (.ret (.val (.bool (decide (lo≤a∧a≤hi)))) []) []:=by
 refine aj mixed ok60 rfl (fun _=>rfl) ?_
 unfold ir60
 rw [aa]
 by_cases h:lo≤a
 · simp [ah,am,ax,ac,af,num,h]
 · simp [ah,am,ax,ac,af,num,h]
theorem i_isNow (n:Int):ag Tryz.prog 81 [.val (num n)] (.ret (.val (.bool (decide (0≤n∧n≤1000000)))) []) []:=by
 refine aj mixed ok81 rfl (fun _=>rfl) ?_
 unfold ir81
 rw [aa]
 simp [ah,am,ax,ac,af,num]
 refine ab rfl rfl (.inl rfl) (mc n 0 1000000) ?_
 simp
theorem Db (b:Bool) (n:Int):ag Tryz.prog 59 [.val (.bool b),.val (num n)] (.ret (.val (num (if b then 0 else n))) []) []:=by
 refine aj mixed ok59 rfl (fun _=>rfl) ?_
 unfold ir59
 rw [aa]
 cases b<;>simp [ah,am,ax,ac,af,num]
theorem i_long (t:Tx):ag Tryz.prog 225 [.val (tx t)] (.ret (.val (num (if t.length≤65536 then 0 else 2))) []) []:=by
 refine aj mixed ok225 rfl (fun _=>rfl) ?_
 unfold ir225
 rw [aa]
 have e:decide ((t.length:Int)≤65536)=decide (t.length≤65536):=by
  by_cases h:t.length≤65536
  · rw [decide_eq_true h,decide_eq_true (by omega)]
  · rw [decide_eq_false h,decide_eq_false (by omega)]
 simp [ah,am,ax,ac,af,tx,ae,e]
 refine ab rfl rfl (.inl rfl) (Db (decide (t.length≤65536)) 2) ?_
 simp [num]
theorem D4 (c:UInt8):ag Tryz.prog 196 [.val (rvb c)] (.ret (.val (.bool (lz c))) []) []:=by
 refine aj mixed ok196 rfl (fun _=>rfl) ?_
 unfold ir196
 rw [aa]
 have e1:((97:Int)≤c.toNat)↔97≤c.toNat:=by omega
 have e2:((c.toNat:Int)≤122)↔c.toNat≤122:=by omega
 by_cases h:97≤c.toNat
 · simp [ah,am,ax,ac,af,rvb,lz,h,e1,e2]
 · simp [ah,am,ax,ac,af,rvb,lz,h,e1,e2]
theorem Jv (c:UInt8):ag Tryz.prog 257 [.val (rvb c)] (.ret (.val (.bool (lw c))) []) []:=by
 refine aj mixed ok257 rfl (fun _=>rfl) ?_
 unfold ir257
 rw [aa]
 have e1:((48:Int)≤c.toNat)↔48≤c.toNat:=by omega
 have e2:((c.toNat:Int)≤57)↔c.toNat≤57:=by omega
 by_cases h:48≤c.toNat
 · simp [ah,am,ax,ac,af,rvb,lw,h,e1,e2]
 · simp [ah,am,ax,ac,af,rvb,lw,h,e1,e2]
theorem N0 (u:LUrl):ag Tryz.prog 201 [.val (oq u)] (.ret (.val (.bool (qf u.scheme))) []) []:=by
 refine aj mixed ok201 rfl (fun _=>rfl) ?_
 unfold ir201
 rw [aa]
 have e1:(⟨#[104,116,116,112]⟩:ByteArray)=bs yy:=rfl
 have e2:(⟨#[104,116,116,112,115]⟩:ByteArray)=bs Bt:=rfl
 by_cases h:u.scheme=yy
 · simp [ah,am,ax,ac,af,oq,tx,num,e1,e2,ka,qf,h]
 · by_cases h':u.scheme=Bt
   · simp [ah,am,ax,ac,af,oq,tx,num,e1,e2,ka,qf,h',show ¬ Bt=yy by decide]
   · simp [ah,am,ax,ac,af,oq,tx,num,e1,e2,ka,qf,h,h']
theorem Sn (t:Tx):ag Tryz.prog 243 [.val (tx t)] (.ret (.val (num (qj t))) []) []:=by
 refine aj mixed ok243 rfl (fun _=>rfl) ?_
 unfold ir243
 rw [aa]
 have e1:(⟨#[104,116,116,112]⟩:ByteArray)=bs yy:=rfl
 by_cases h:t=yy
 · simp [ah,am,ax,ac,af,tx,e1,ka,qj,h,num]
 · simp [ah,am,ax,ac,af,tx,e1,ka,qj,h,num]
def ug (l:List Int):Int:=(l.find? (fun c=>c != 0)).getD 0
theorem Tq {c:Int} (h:c≠0) (r:List Int):ug (c :: r)=c:=by simp [ug,h]
theorem Nm (r:List Int):ug (0 :: r)=ug r:=by simp [ug]
theorem Sp (l:List Int) (hl:l.length < 1099511627776):ag Tryz.prog 58 [.val (.list 1 (l.map num))] (.ret (.val (num (ug l))) []) []:=by
 refine aj mixed ok58 rfl (fun _=>rfl) ?_
 unfold ir58
 rw [aa]
 simp [ah,am,ax,ac,af,num]
 refine ay (X:=Nat) (fun i=>⟨co [(5,.val (.list 1 (l.map num))),(6,.val (num l.length)),(7,.val (num i))],cu []⟩) (fun i=>i≤l.length∧ug l=ug (l.drop i)) (fun i=>l.length - i) 0 (Le.mk _ _ ?_ ?_) ?_ ?_
 · simp [upd,num]
 · simp
 · simp
 · rintro i ⟨hi,hinv⟩
   simp [num]
   refine ak (fun h1=>?_) (fun h1=>?_)
   · have e:(l.map num)[i]?.getD RV.nilptr=num l[i]:=by simp [List.getElem?_eq_getElem h1]
     have e2:(l.map num)[i]'(by simpa using h1)=num l[i]:=by simp
     rw [List.drop_eq_getElem_cons h1] at hinv
     by_cases h0:l[i]=0
     · simp [num,h1,h0]
       refine LoopNext.mk (i+1) ⟨by omega,?_⟩ (by omega) (Le.mk _ _ ?_ ?_)
       · rw [hinv,h0,Nm]
       · simp [num];exact wrap_i64 (by omega) (by omega)
       · simp
     · simp [num,h1,h0]
       rw [hinv,Tq h0]
   · have e:i=l.length:=by omega
     subst e
     simp [num]
     rw [hinv];simp [ug]
theorem Qu (t:Tx) (ht:t.length < 1099511627776):ag Tryz.prog 248 [.val (tx t)] (.ret (.val (.bool (nj t))) []) []:=by
 refine aj mixed ok248 rfl (fun _=>rfl) ?_
 unfold ir248
 rw [aa]
 simp [ah,am,ax,ac,af,tx,ae]
 refine ay (X:=Nat) (fun i=>⟨co [(0,.val (tx t)),(5,.val (num t.length)),(6,.val (num i))],cu []⟩) (fun i=>i≤t.length∧nj (t.take i)=true) (fun i=>t.length - i) 0 (Le.mk _ _ ?_ ?_) ?_ ?_
 · simp [upd,num,tx]
 · simp
 · simp [nj]
 · rintro i ⟨hi,hinv⟩
   simp [num,tx]
   refine ak (fun h1=>?_) (fun h1=>?_)
   · simp [tx,num,ae,ar,h1]
     have hw:IntKind.i64.wrap (t[i].toNat:Int)=(t[i].toNat:Int):=wrap_i64 (by omega) (by have:=t[i].toNat_lt;omega)
     refine ab rfl rfl (.inl rfl) (by rw [hw];exact mc (t[i].toNat:Int) 33 126) ?_
     have e:decide ((33:Int)≤(t[i].toNat:Int)∧(t[i].toNat:Int)≤126)=decide (33≤t[i].toNat∧t[i].toNat≤126):=by
      by_cases h:33≤t[i].toNat∧t[i].toNat≤126
      · rw [decide_eq_true h,decide_eq_true (by omega)]
      · rw [decide_eq_false h,decide_eq_false (by omega)]
     rw [e]
     have hs:nj (t.take (i+1))=(nj (t.take i) && decide (33≤t[i].toNat∧t[i].toNat≤126)):=mo _ _ _ h1
     cases hd:decide (33≤t[i].toNat∧t[i].toNat≤126) with
     | true=>
      simp
      refine LoopNext.mk (i+1) ⟨by omega,?_⟩ (by omega) (Le.mk _ _ ?_ ?_)
      · rw [hs,hinv,hd];rfl
      · simp [num,tx];exact wrap_i64 (by omega) (by omega)
      · simp
     | false=>
      have:nj t=false:=by
       unfold nj
       rw [List.all_eq_false]
       exact ⟨t[i],List.getElem_mem h1,by rw [hd];simp⟩
      rw [this]
      simp
   · have e:i=t.length:=by omega
     subst e
     rw [List.take_length] at hinv
     simp [hinv]
def Cq (i:Nat) (c:UInt8):Bool:=decide (i=0) || (!lw c && !decide (c.toNat=45) && !decide (c.toNat=43) && !decide (c.toNat=46))
theorem sch_eq (i:Nat) (c:UInt8):(!lz c && Cq i c)=!(if i=0 then lz c else oj c):=by
 unfold Cq oj
 have e:decide (c.toNat=45∨c.toNat=43∨c.toNat=46)=(decide (c.toNat=45) || decide (c.toNat=43) || decide (c.toNat=46)):=by
  by_cases h1:c.toNat=45<;>by_cases h2:c.toNat=43<;>by_cases h3:c.toNat=46<;>simp [h1,h2,h3]
 rw [e]
 by_cases h:i=0
 · simp [h]
 · simp only [h,decide_false,Bool.false_or,if_false]
   cases lz c<;>cases lw c<;>cases decide (c.toNat=45)<;>cases decide (c.toNat=43)<;>cases decide (c.toNat=46)<;>rfl
structure SS (st:St) (t:Tx) (i m:Nat) (c:UInt8):Prop where
 e0:st.env 0=.val (tx t)
 e3:st.env 3=.val (num i)
 e4:st.env 4=.val (rvb c)
 e7:st.env 7=.val (num m)
 e8:st.env 8=.val (num i)
theorem sops18 {Ks:Kx (St→Prop)} {kx:Kx (RV→St→Prop)} {st:St} {t:Tx} {i m:Nat} {c:UInt8} {b:Bool} (h:SS st t i m c) (hb:st.env 17=.val (.bool b)) (hK:∀ st',SS st' t i m c→st'.env 37=.val (.bool (b && Cq i c))→Ks.k st'):EO Tryz.prog ir247_o18 st (Ks:=Ks) (kx:=kx):=by
 unfold ir247_o18
 cases b with
 | false=>
  simp [hb]
  refine hK _ ⟨?_,?_,?_,?_,?_⟩ ?_<;>simp [h.e0,h.e3,h.e4,h.e7,h.e8]
 | true=>
  by_cases h0:i=0
  · subst h0
    simp [hb,h.e3,num]
    refine hK _ ⟨?_,?_,?_,?_,?_⟩ ?_<;>simp [h.e0,h.e3,h.e4,h.e7,h.e8,Cq]
  · simp [hb,h.e3,h.e4,num,h0,rvb]
    refine ab rfl rfl (.inl rfl) (Jv c) ?_
    have e3:((c.toNat:Int)=45)↔c.toNat=45:=by omega
    have e4:((c.toNat:Int)=43)↔c.toNat=43:=by omega
    have e5:((c.toNat:Int)=46)↔c.toNat=46:=by omega
    cases hd:lw c with
    | true=>
     simp [hb,h.e3,h.e4,rvb,h0]
     refine hK _ ⟨?_,?_,?_,?_,?_⟩ ?_<;>simp [h.e0,h.e3,h.e4,h.e7,h.e8,Cq,h0,hd,num,rvb]
    | false=>
     by_cases h1:c.toNat=45
     · simp [hb,h.e3,h.e4,rvb,h0,e3,e4,e5,h1]
       refine hK _ ⟨?_,?_,?_,?_,?_⟩ ?_<;>simp [h.e0,h.e3,h.e4,h.e7,h.e8,Cq,h0,hd,h1,num,rvb]
     · by_cases h2:c.toNat=43
       · simp [hb,h.e3,h.e4,rvb,h0,e3,e4,e5,h1,h2]
         refine hK _ ⟨?_,?_,?_,?_,?_⟩ ?_<;>simp [h.e0,h.e3,h.e4,h.e7,h.e8,Cq,h0,hd,h1,h2,num,rvb]
       · by_cases h3:c.toNat=46
         · simp [hb,h.e3,h.e4,rvb,h0,e3,e4,e5,h1,h2,h3]
           refine hK _ ⟨?_,?_,?_,?_,?_⟩ ?_<;>simp [h.e0,h.e3,h.e4,h.e7,h.e8,Cq,h0,hd,h1,h2,h3,num,rvb]
         · have e3':¬ ((c.toNat:Int)=45):=by omega
           have e4':¬ ((c.toNat:Int)=43):=by omega
           have e5':¬ ((c.toNat:Int)=46):=by omega
           simp [hb,h.e3,h.e4,rvb,h0,e3,e4,e5,h1,h2,h3]
           refine hK _ ⟨?_,?_,?_,?_,?_⟩ ?_<;>simp [h.e0,h.e3,h.e4,h.e7,h.e8,Cq,h0,hd,h1,h2,h3,num,rvb,e5']
theorem Qs (t:Tx) (ht:t.length < 1099511627776):ag Tryz.prog 247 [.val (tx t)] (.ret (.val (.bool (oa t))) []) []:=by
 refine aj mixed ok247 rfl (fun _=>rfl) ?_
 unfold ir247
 rw [aa]
 have hmn:(if (13:Int) < (t.length:Int) then 13 else (t.length:Int))=((min t.length 13:Nat):Int):=by split<;>omega
 simp [ah,am,ax,ac,af,tx,ae,hmn]
 refine ay (X:=Nat) (fun i=>⟨co [(0,.val (tx t)),(7,.val (num (min t.length 13:Nat))),(8,.val (num i))],cu []⟩) (fun i=>i≤min t.length 13∧vm (t.take i)=true) (fun i=>t.length - i) 0 (Le.mk _ _ ?_ ?_) ?_ ?_
 · simp [upd,num,tx]
 · simp
 · simp [vm]
 · rintro i ⟨hi,hinv⟩
   have hib:((i:Int) < ((min t.length 13:Nat):Int))↔i < min t.length 13:=by omega
   unfold ir247_l9
   by_cases h1:i < min t.length 13
   · have h1t:i < t.length:=by omega
     have h1':i < t.length∧i < 13:=by omega
     simp [num,tx,hib,h1,h1'.1,h1'.2,ae,ar]
     refine ab rfl rfl (.inl rfl) (D4 t[i]) ?_
     simp
     refine sops18 (t:=t) (i:=i) (m:=min t.length 13) (c:=t[i]) (b:=!lz t[i]) ⟨?_,?_,?_,?_,?_⟩ ?_ (fun st' q1 q2=>?_)
     · simp [tx]
     · simp [num]
     · simp [rvb]
     · simp [num]
     · simp [num]
     · simp
     · rw [sch_eq] at q2
       simp only [dz,ia,d8,gy,d9,ck,d7,gz,bm,ew,ir,iu,au,cf,cg,bf,eb,cj,bh,gx,dy,ci,ch,f9,ga,ql,qn,Option.getD_some,Option.getD_none,fo,cq,b9,f5,b8,bv,f8,bw,f7,fz,fy,iz,dl,b6,fw,dh,bz,fv,fl,fx,di,ft,bu,dg,fu,i7,i6,fm,fp,bx,fq,dm,b7,fa,bo,fk,fj,fi,iv,dc,bq,fg,da,bp,ff,ex,fh,db,fc,bn,cz,fe,ix,iw,ez,cx,bt,fb,de,br,jq,jp,j5,jr,jv,jt,js,j4,ju,jw,jx,jy,jz,eg,ef,ed,kj,kl,ek,ib,ct,ge,dq,j7,cl,l4,ko,kf,lb,ld,lc,l5,l6,ji,jk,jj,jl,jm,k8,dt,k7,gf,gg,gh,du,qp,gu,dx,l2,l3,i8,km,kn,Option.map_some,Option.map_none,gm,dv,dp,ca,gc,gd,jc,jb,lj,li,jo,gv,gw,jn,lf,lg,je,cd,jf,cb,ku,gt,gr,bg,la,lh,jh,ky,k6,kz,dr,eq,eu,er,ba,k9,l8,l7,kq,jg,ns,kr,ce,gp,gq,dw,gn,bd,cv,bc,cw,bb,j6,lk,ll,eh,ei,ie,ic,gb,q2]
       have hsucc:=Eo t i h1t
       cases hgood:(if i=0 then lz t[i] else oj t[i]) with
       | true=>
        refine ak (fun h=>by simp at h) (fun _=>?_)
        simp [q1.e8,num]
        refine LoopNext.mk (i+1) ⟨by omega,?_⟩ (by omega) (Le.mk _ _ ?_ ?_)
        · rw [hsucc,hinv,hgood];rfl
        · simp [num,tx,q1.e0,q1.e7];exact wrap_i64 (by omega) (by omega)
        · simp
       | false=>
        refine ak (fun _=>?_) (fun h=>by simp at h)
        have:oa t=false:=by
         unfold oa
         rw [Cp t i h1t hgood,Bool.and_false]
        rw [this]
        simp
   · have e:i=min t.length 13:=by omega
     simp [num,tx,hib,h1,ae]
     refine ab rfl rfl (.inl rfl) (mc t.length 1 12) ?_
     have:oa t=decide ((1:Int)≤(t.length:Int)∧(t.length:Int)≤12):=by
      unfold oa
      by_cases hl:t.length≤12
      · have:i=t.length:=by omega
        subst this
        rw [List.take_length] at hinv
        rw [hinv,Bool.and_true]
        by_cases h0:1≤t.length
        · rw [decide_eq_true (by omega),decide_eq_true (by omega)]
        · rw [decide_eq_false (by omega),decide_eq_false (by omega)]
      · rw [decide_eq_false (by omega),decide_eq_false (by omega)];rfl
     rw [this]
     simp
end
section
variable [GH]
theorem T5 (n:Int) (h0:-9223372036854775808≤n) (h1:n≤9223372036854775807):ag Tryz.prog 227 [.val (num n)] (.ret (.val (tx (x6 n))) []) []:=by
 refine aj mixed ok227 rfl (fun _=>rfl) ?_
 unfold ir227
 rw [aa]
 simp [ah,am,ax,ac,af,num]
 refine ab rfl rfl (.inl rfl) (X2 n h0 h1) ?_
 simp
end
end Go.Proofs
end
section
namespace Go.Proofs
open Go.PW Go.KP
variable [GF]
structure HS (st:St) (t:Tx) (i:Nat) (c:UInt8):Prop where
 e0:st.env 0=.val (tx t)
 e3:st.env 3=.val (num i)
 e4:st.env 4=.val (rvb c)
 e6:st.env 6=.val (num t.length)
 e7:st.env 7=.val (num i)
section
variable {Ks:Kx (St→Prop)} {kx:Kx (RV→St→Prop)} {st:St} {t:Tx} {i:Nat} {c:UInt8} {b:Bool}
def Ue (t:Tx) (i:Nat):Bool:=decide ((t.getD (i - 1) 0).toNat=46)
theorem Q0 (hi:i < t.length) (hl:t.length < 1099511627776) (h:HS st t i c) (hb:st.env 43=.val (.bool b)) (h0:b=false→i≠0) (hK:∀ st',HS st' t i c→st'.env 49=.val (.bool (b || Ue t i))→Ks.k st'):EO Tryz.prog ir249_o44 st (Ks:=Ks) (kx:=kx):=by
 unfold ir249_o44
 cases b with
 | true=>
  simp [hb]
  refine hK _ ⟨?_,?_,?_,?_,?_⟩ ?_<;>simp [h.e0,h.e3,h.e4,h.e6,h.e7]
 | false=>
  have hi0:=h0 rfl
  have hw:IntKind.i64.wrap ((i:Int) - 1)=((i - 1:Nat):Int):=by rw [wrap_i64 (by omega) (by omega)];omega
  have hi1:i - 1 < t.length:=by omega
  have e46:((t[i - 1].toNat:Int)=46)↔t[i - 1].toNat=46:=by omega
  by_cases h1:t[i - 1].toNat=46
  · simp [hb,h.e0,h.e3,h.e4,h.e6,h.e7,tx,num,rvb,ae,ar,hw,hi1,e46,h1]
    refine hK _ ⟨?_,?_,?_,?_,?_⟩ ?_<;>simp [h.e0,h.e3,h.e4,h.e6,h.e7,tx,num,rvb,Ue,List.getElem?_eq_getElem hi1,h1]
  · have h1':((t[i - 1].toNat:Int) == 46)=false:=by simp;omega
    simp [hb,h.e0,h.e3,h.e4,h.e6,h.e7,tx,num,rvb,ae,ar,hw,hi1,e46,h1,h1']
    refine hK _ ⟨?_,?_,?_,?_,?_⟩ ?_<;>simp [h.e0,h.e3,h.e4,h.e6,h.e7,tx,num,rvb,Ue,List.getElem?_eq_getElem hi1,h1,h1']
def Uf (t:Tx) (i:Nat):Bool:=decide ((t.getD (i - 1) 0).toNat=45) || Ue t i
theorem Q1 (hi:i < t.length) (hl:t.length < 1099511627776) (h:HS st t i c) (hb:st.env 36=.val (.bool b)) (h0:b=false→i≠0) (hK:∀ st',HS st' t i c→st'.env 49=.val (.bool (b || Uf t i))→Ks.k st'):EO Tryz.prog ir249_o37 st (Ks:=Ks) (kx:=kx):=by
 unfold ir249_o37
 cases b with
 | true=>
  simp [hb]
  refine Q0 (b:=true) (t:=t) (i:=i) (c:=c) hi hl ⟨?_,?_,?_,?_,?_⟩ ?_ (by simp) (fun st' q1 q2=>hK st' q1 (by simpa using q2))<;>simp [h.e0,h.e3,h.e4,h.e6,h.e7]
 | false=>
  have hi0:=h0 rfl
  have hw:IntKind.i64.wrap ((i:Int) - 1)=((i - 1:Nat):Int):=by rw [wrap_i64 (by omega) (by omega)];omega
  have hi1:i - 1 < t.length:=by omega
  have e46:((t[i - 1].toNat:Int)=45)↔t[i - 1].toNat=45:=by omega
  by_cases h1:t[i - 1].toNat=45
  · simp [hb,h.e0,h.e3,h.e4,h.e6,h.e7,tx,num,rvb,ae,ar,hw,hi1,e46,h1]
    refine Q0 (b:=true) (t:=t) (i:=i) (c:=c) hi hl ⟨?_,?_,?_,?_,?_⟩ ?_ (by simp) (fun st' q1 q2=>hK st' q1 (by rw [q2];simp [Uf,List.getElem?_eq_getElem hi1,h1]))<;>simp [h.e0,h.e3,h.e4,h.e6,h.e7,tx,num,rvb]
  · have h1':((t[i - 1].toNat:Int) == 45)=false:=by simp;omega
    simp [hb,h.e0,h.e3,h.e4,h.e6,h.e7,tx,num,rvb,ae,ar,hw,hi1,e46,h1,h1']
    refine Q0 (b:=false) (t:=t) (i:=i) (c:=c) hi hl ⟨?_,?_,?_,?_,?_⟩ ?_ (fun _=>hi0) (fun st' q1 q2=>hK st' q1 (by rw [q2];simp [Uf,List.getElem?_eq_getElem hi1,h1]))<;>simp [h.e0,h.e3,h.e4,h.e6,h.e7,tx,num,rvb]
def Ug (t:Tx) (i:Nat):Bool:=decide (i=t.length - 1) || Uf t i
theorem Q2 (hi:i < t.length) (hl:t.length < 1099511627776) (h:HS st t i c) (hb:st.env 29=.val (.bool b)) (h0:b=false→i≠0) (hK:∀ st',HS st' t i c→st'.env 49=.val (.bool (b || Ug t i))→Ks.k st'):EO Tryz.prog ir249_o30 st (Ks:=Ks) (kx:=kx):=by
 unfold ir249_o30
 cases b with
 | true=>
  simp [hb]
  refine Q1 (b:=true) (t:=t) (i:=i) (c:=c) hi hl ⟨?_,?_,?_,?_,?_⟩ ?_ (by simp) (fun st' q1 q2=>hK st' q1 (by simpa using q2))<;>simp [h.e0,h.e3,h.e4,h.e6,h.e7]
 | false=>
  have hi0:=h0 rfl
  have hw:IntKind.i64.wrap ((t.length:Int) - 1)=((t.length - 1:Nat):Int):=by rw [wrap_i64 (by omega) (by omega)];omega
  have e:((i:Int) == ((t.length - 1:Nat):Int))=decide (i=t.length - 1):=by
   rw [Bool.eq_iff_iff];simp;omega
  simp only [dz,ia,d8,gy,d9,ck,d7,gz,bm,ew,ir,iu,au,cf,cg,bf,eb,cj,bh,gx,dy,ci,ch,f9,ga,ql,qn,Option.getD_some,Option.getD_none,fo,cq,b9,f5,b8,bv,f8,bw,f7,fz,fy,iz,dl,b6,fw,dh,bz,fv,fl,fx,di,ft,bu,dg,fu,i7,i6,fm,fp,bx,fq,dm,b7,fa,bo,fk,fj,fi,iv,dc,bq,fg,da,bp,ff,ex,fh,db,fc,bn,cz,fe,ix,iw,ez,cx,bt,fb,de,br,jq,jp,j5,jr,jv,jt,js,j4,ju,jw,jx,jy,jz,eg,ef,ed,kj,kl,ek,ib,ct,ge,dq,j7,cl,l4,ko,kf,lb,ld,lc,l5,l6,ji,jk,jj,jl,jm,k8,dt,k7,gf,gg,gh,du,qp,gu,dx,l2,l3,i8,km,kn,Option.map_some,Option.map_none,gm,dv,dp,ca,gc,gd,jc,jb,lj,li,jo,gv,gw,jn,lf,lg,je,cd,jf,cb,ku,gt,gr,bg,la,lh,jh,ky,k6,kz,dr,eq,eu,er,ba,k9,l8,l7,kq,jg,ns,kr,ce,gp,gq,dw,gn,bd,cv,bc,cw,bb,j6,lk,ll,eh,ei,ie,ic,gb,hb,h.e0,h.e3,h.e4,h.e6,h.e7,tx,num,rvb,ae,hw,e]
  refine ak (fun _=>?_) (fun h=>absurd rfl h)
  by_cases h1:i=t.length - 1
  · simp [hb,h.e0,h.e3,h.e4,h.e6,h.e7,tx,num,rvb,ae,hw,e,(eq_true h1:(i=t.length - 1)=True)]
    refine Q1 (b:=true) (t:=t) (i:=i) (c:=c) hi hl ⟨?_,?_,?_,?_,?_⟩ ?_ (by simp) (fun st' q1 q2=>hK st' q1 (by rw [q2];simp [Ug,(eq_true h1:(i=t.length - 1)=True)]))<;>simp [h.e0,h.e3,h.e4,h.e6,h.e7,tx,num,rvb]
  · simp [hb,h.e0,h.e3,h.e4,h.e6,h.e7,tx,num,rvb,ae,hw,e,h1]
    refine Q1 (b:=false) (t:=t) (i:=i) (c:=c) hi hl ⟨?_,?_,?_,?_,?_⟩ ?_ (fun _=>hi0) (fun st' q1 q2=>hK st' q1 (by rw [q2];simp [Ug,h1]))<;>simp [h.e0,h.e3,h.e4,h.e6,h.e7,tx,num,rvb]
def I7 (t:Tx) (i:Nat):Bool:=decide (i=0) || Ug t i
theorem Q3 (hi:i < t.length) (hl:t.length < 1099511627776) (h:HS st t i c) (hb:st.env 25=.val (.bool b)) (hK:∀ st',HS st' t i c→st'.env 49=.val (.bool (b || I7 t i))→Ks.k st'):EO Tryz.prog ir249_o26 st (Ks:=Ks) (kx:=kx):=by
 unfold ir249_o26
 cases b with
 | true=>
  simp [hb]
  refine Q2 (b:=true) (t:=t) (i:=i) (c:=c) hi hl ⟨?_,?_,?_,?_,?_⟩ ?_ (by simp) (fun st' q1 q2=>hK st' q1 (by simpa using q2))<;>simp [h.e0,h.e3,h.e4,h.e6,h.e7]
 | false=>
  by_cases h1:i=0
  · subst h1
    simp [hb,h.e0,h.e3,h.e4,h.e6,h.e7,tx,num,rvb,ae]
    refine Q2 (b:=true) (t:=t) (i:=0) (c:=c) hi hl ⟨?_,?_,?_,?_,?_⟩ ?_ (by simp) (fun st' q1 q2=>hK st' q1 (by rw [q2];simp [I7]))<;>simp [h.e0,h.e3,h.e4,h.e6,h.e7,tx,num,rvb]
  · simp [hb,h.e0,h.e3,h.e4,h.e6,h.e7,tx,num,rvb,ae,h1]
    refine Q2 (b:=false) (t:=t) (i:=i) (c:=c) hi hl ⟨?_,?_,?_,?_,?_⟩ ?_ (fun _=>h1) (fun st' q1 q2=>hK st' q1 (by rw [q2];simp [I7,h1]))<;>simp [h.e0,h.e3,h.e4,h.e6,h.e7,tx,num,rvb,h1]
end
def iq (t:Tx) (i:Nat) (c:UInt8):Bool:=(!decide (c.toNat=45) && !decide (c.toNat=46)) || I7 t i
theorem Xg {K:Kx (PExit→St→Prop)} {st:St} {t:Tx} {i:Nat} {c:UInt8} (hi:i < t.length) (hl:t.length < 1099511627776) (h:HS st t i c)
 (hR:iq t i c=true→∀ st',st'.env 2=.val (.bool false)→K.k .ret st') (hN:iq t i c=false→∀ st',HS st' t i c→K.k .normal st'):EC Tryz.prog ir249_s19 st (K:=K):=by
 unfold ir249_s19
 have hend:∀ b,b=(!decide (c.toNat=45) && !decide (c.toNat=46))→∀ st':St,HS st' t i c→st'.env 49=.val (.bool (b || I7 t i)) →
  CD (st'.env 49) (A:=⟨EC Tryz.prog (.seq (.reg [⟨some 2,.mov (.k (.val (.bool false))),none⟩]) .ret) st' (K:=K)⟩) (B:=⟨EC Tryz.prog .skip st' (K:=K)⟩):=by
  intro b hb st' q1 q2
  rw [q2]
  have e:(b || I7 t i)=iq t i c:=by rw [hb];rfl
  rw [e]
  cases hbd:iq t i c with
  | true=>
   simp
   exact hR hbd _ (by simp)
  | false=>
   simp
   exact hN hbd _ q1
 have e3:((c.toNat:Int)=45)↔c.toNat=45:=by omega
 have e5:((c.toNat:Int)=46)↔c.toNat=46:=by omega
 by_cases h1:c.toNat=45
 · simp [h.e0,h.e3,h.e4,h.e6,h.e7,tx,num,rvb,e3,e5,h1]
   refine Q3 (b:=false) (t:=t) (i:=i) (c:=c) hi hl ⟨?_,?_,?_,?_,?_⟩ ?_ (fun st' q1 q2=>hend false (by simp [h1]) st' q1 q2)<;>simp [h.e0,h.e3,h.e4,h.e6,h.e7,tx,num,rvb,h1]
 · by_cases h2:c.toNat=46
   · simp [h.e0,h.e3,h.e4,h.e6,h.e7,tx,num,rvb,e3,e5,h1,h2]
     refine Q3 (b:=false) (t:=t) (i:=i) (c:=c) hi hl ⟨?_,?_,?_,?_,?_⟩ ?_ (fun st' q1 q2=>hend false (by simp [h2]) st' q1 q2)<;>simp [h.e0,h.e3,h.e4,h.e6,h.e7,tx,num,rvb,h2]
   · have h2':((c.toNat:Int) == 46)=false:=by simp;omega
     simp [h.e0,h.e3,h.e4,h.e6,h.e7,tx,num,rvb,e3,e5,h1,h2,h2']
     refine Q3 (b:=true) (t:=t) (i:=i) (c:=c) hi hl ⟨?_,?_,?_,?_,?_⟩ ?_ (fun st' q1 q2=>hend true (by simp [h1,h2]) st' q1 q2)<;>simp [h.e0,h.e3,h.e4,h.e6,h.e7,tx,num,rvb,h1,h2]
     all_goals omega
def ss (c:UInt8):Bool:=lz c || lw c
def tn (t:Tx) (i:Nat):Bool:=decide (i=0) || !ss (t.getD (i - 1) 0)
theorem Gt {c:UInt8} (h:c.toNat=45∨c.toNat=46):ss c=false:=by
 unfold ss lz lw
 rcases h with h | h<;>simp [h]
theorem Xd (t:Tx) (ht:t.length < 1099511627776):ag Tryz.prog 249 [.val (tx t)] (.ret (.val (.bool (sq t))) []) []:=by
 refine aj mixed ok249 rfl (fun _=>rfl) ?_
 unfold ir249
 rw [aa]
 simp [ah,am,ax,ac,af,tx,ae]
 refine ay (X:=Nat) (fun i=>⟨co [(0,.val (tx t)),(6,.val (num t.length)),(7,.val (num i))],cu []⟩) (fun i=>i≤t.length∧sq t=nr (tn t i) (t.drop i)∧(0 < i→ss (t.getD (i - 1) 0)=true∨((t.getD (i - 1) 0).toNat=45∨(t.getD (i - 1) 0).toNat=46)∧i < t.length)) (fun i=>t.length - i) 0 (Le.mk _ _ ?_ ?_) ?_ ?_
 · simp [upd,num,tx]
 · simp
 · simp [tn,sq]
 · rintro i ⟨hi,hinv,hprev⟩
   unfold ir249_l8
   simp [num,tx]
   refine ak (fun h1=>?_) (fun h1=>?_)
   · have hstep:=Ha (tn t i) t i h1
     have hg1:t.getD (i+1 - 1) 0=t[i]:=by rw [Nat.add_sub_cancel];exact vw _ _ _ h1
     have hl1:tn t (i+1)=!ss t[i]:=by
      unfold tn
      rw [hg1];simp
     have hnext:∀ st':St,st'.env 0=.val (tx t)→st'.env 6=.val (num t.length)→st'.env 7=.val (num ((i:Int)+1))→sq t=nr (!ss t[i]) (t.drop (i+1))→(ss t[i]=true∨(t[i].toNat=45∨t[i].toNat=46)∧i+1 < t.length) →
      ∃ x',(x'≤t.length∧sq t=nr (tn t x') (t.drop x')∧(0 < x'→ss (t.getD (x' - 1) 0)=true∨((t.getD (x' - 1) 0).toNat=45∨(t.getD (x' - 1) 0).toNat=46)∧x' < t.length))∧t.length - x' < t.length - i∧Le st' ⟨co [(0,.val (tx t)),(6,.val (num t.length)),(7,.val (num x'))],cu []⟩:=fun st' q1 q2 q3 q4 q5=>by
      refine ⟨i+1,⟨by omega,by rw [hl1];exact q4,fun _=>by rw [hg1];exact q5⟩,by omega,Le.mk _ _ ?_ ?_⟩
      · simp [q1,q2,q3]
      · simp
     simp [tx,num,ae,ar,h1]
     refine ab rfl rfl (.inl rfl) (D4 t[i]) ?_
     have hplain:ss t[i]=true→sq t=nr (!ss t[i]) (t.drop (i+1)):=fun hp=>by
      rw [hinv,hstep]
      have:(lz t[i] || lw t[i])=true:=hp
      rw [this,hp];rfl
     cases hlow:lz t[i] with
     | true=>
      have hp:ss t[i]=true:=by unfold ss;rw [hlow];rfl
      simp
      refine hnext _ ?_ ?_ ?_ (hplain hp) (.inl hp)
      · simp [tx]
      · simp [num]
      · simp [num];exact wrap_i64 (by omega) (by omega)
     | false=>
      simp
      refine ab rfl rfl (.inl rfl) (Jv t[i]) ?_
      cases hdig:lw t[i] with
      | true=>
       have hp:ss t[i]=true:=by unfold ss;rw [hdig];simp
       simp
       refine hnext _ ?_ ?_ ?_ (hplain hp) (.inl hp)
       · simp [tx]
       · simp [num]
       · simp [num];exact wrap_i64 (by omega) (by omega)
      | false=>
       have hp:ss t[i]=false:=by unfold ss;rw [hlow,hdig];rfl
       have hp':(lz t[i] || lw t[i])=false:=hp
       simp
       refine Xg (t:=t) (i:=i) (c:=t[i]) h1 ht ⟨?_,?_,?_,?_,?_⟩ (fun hbd st' q=>?_) (fun hbd st' q=>?_)
       · simp [tx]
       · simp [num]
       · simp [rvb]
       · simp [num]
       · simp [num]
       · have:sq t=false:=by
          rw [hinv,hstep,hp']
          by_cases hcs:t[i].toNat=45∨t[i].toNat=46
          · have hb26':I7 t i=true:=by
             unfold iq at hbd
             rcases hcs with h | h<;>simpa [h] using hbd
            have hlast:tn t i=true∨i=t.length - 1:=by
             unfold I7 Ug Uf Ue at hb26'
             simp only [Bool.or_eq_true,decide_eq_true_eq] at hb26'
             rcases hb26' with h | h | h | h
             · left;unfold tn;rw [decide_eq_true h];rfl
             · right;exact h
             · left;unfold tn;rw [Gt (.inl h)];simp
             · left;unfold tn;rw [Gt (.inr h)];simp
            by_cases hla:tn t i=true
            · rw [hla];simp
            · have hei:i=t.length - 1:=hlast.resolve_left hla
              have hd:t.drop (i+1)=[]:=List.drop_eq_nil_of_le (by omega)
              rw [hd]
              cases (tn t i || !decide (t[i].toNat=45∨t[i].toNat=46))<;>rfl
          · rw [decide_eq_false hcs];simp
         rw [this]
         simp [q]
       · have hcs:t[i].toNat=45∨t[i].toNat=46:=by
          unfold iq at hbd
          by_cases h45:t[i].toNat=45
          · exact .inl h45
          · by_cases h46:t[i].toNat=46
            · exact .inr h46
            · simp [h45,h46] at hbd
         have hb26':I7 t i=false:=by
          unfold iq at hbd
          rcases hcs with h | h<;>simpa [h] using hbd
         unfold I7 Ug Uf Ue at hb26'
         simp only [Bool.or_eq_false_iff,decide_eq_false_iff_not] at hb26'
         obtain ⟨k0,k1,k2,k3⟩:=hb26'
         have hla:tn t i=false:=by
          unfold tn
          rcases hprev (by omega) with h | ⟨h | h,_⟩
          · rw [h,decide_eq_false k0];rfl
          · exact absurd h k2
          · exact absurd h k3
         simp [q.e7,num]
         refine hnext _ ?_ ?_ ?_ ?_ (.inr ⟨hcs,by omega⟩)
         · simp [q.e0]
         · simp [q.e6]
         · simp [num];exact wrap_i64 (by omega) (by omega)
         · rw [hinv,hstep,hp',hla,decide_eq_true hcs,hp];rfl
   · have e:i=t.length:=by omega
     subst e
     have e3:(⟨#[]⟩:ByteArray)=bs []:=rfl
     rw [List.drop_length] at hinv
     have hfin:sq t=!decide (t=[]):=by
      rw [hinv]
      unfold tn
      simp only [nr]
      by_cases h0:t=[]
      · subst h0;rfl
      · have hpos:0 < t.length:=List.length_pos_iff.2 h0
        rcases hprev hpos with h | ⟨_,h⟩
        · rw [h,decide_eq_false (by omega),decide_eq_false h0];rfl
        · omega
     rw [hfin]
     simp [tx,e3,ka]
end Go.Proofs
end
section
namespace Go.Proofs
open Go.PW Go.KP
attribute [local simp] RV.cells RV.one PV.cells PV.solid PV.one im ao kh ke RV.ofCells elems PV.killL
variable [GH]
theorem Wt (n:Int) (h0:-9223372036854775808≤n) (h1:n≤9223372036854775807):(x6 n).length≤20:=by
 unfold x6
 split
 · have:=wh 18 (-n).toNat (by omega)
   simp;omega
 · have:=wh 18 n.toNat (by omega)
   omega
structure UT (st:St) (u:LUrl) (pre:Tx):Prop where
 e1:st.env 1=.ptr 1 0
 e3:st.env 3=.val (tx pre)
 m1:st.mem 1=.box (ai u)
abbrev txt (t:Tx):Kx (PExit→St→Prop):=⟨sw [.t 2] (.val (tx t))⟩
theorem Nt (u:LUrl) (hs:u.Small) (pre:Tx) (hp:pre.length < 5497558138880) (st:St) (h:UT st u pre) :
 EC Tryz.prog ir202_from7 st (K:=txt (pre++(if u.hasQ then 63 :: u.query else [])++(if u.hasF then 35 :: u.frag else []))):=by
 unfold ir202_from7
 obtain ⟨s1,s2,s3,s4,s5,s6,s7⟩:=hs
 have e5:(⟨#[63]⟩:ByteArray)=bs [63]:=rfl
 have e6:(⟨#[35]⟩:ByteArray)=bs [35]:=rfl
 cases hq:u.hasQ with
 | true=>
  cases hf:u.hasF with
  | true=>
   simp [h.e1,h.e3,h.m1,ai,tx,num,ae,e5,e6,kb,hq,hf]
   omega
  | false=>
   simp [h.e1,h.e3,h.m1,ai,tx,num,ae,e5,e6,kb,hq,hf]
   omega
 | false=>
  cases hf:u.hasF with
  | true=>
   simp [h.e1,h.e3,h.m1,ai,tx,num,ae,e5,e6,kb,hq,hf]
   omega
  | false=>
   simp [h.e1,h.e3,h.m1,ai,tx,num,ae,e5,e6,kb,hq,hf]
def Fu (u:LUrl):Tx:=u.path++(if u.hasQ then 63 :: u.query else [])++(if u.hasF then 35 :: u.frag else [])
theorem E3 (u:LUrl) (hs:u.Small) (pre:Tx) (hp:pre.length < 4398046511104) (st:St) (h:UT st u pre) :
 EC Tryz.prog ir202_from6 st (K:=txt (pre++Fu u)):=by
 unfold ir202_from6
 have hs':=hs
 obtain ⟨s1,s2,s3,s4,s5,s6,s7⟩:=hs
 have e:pre++Fu u=(pre++u.path)++(if u.hasQ then 63 :: u.query else [])++(if u.hasF then 35 :: u.frag else []):=by simp [Fu]
 rw [e]
 simp [h.e1,h.e3,h.m1,ai,tx,num,ae,kb]
 refine ⟨by omega,?_⟩
 refine Nt u hs' (pre++u.path) (by simp;omega) _ ⟨?_,?_,?_⟩<;>simp [h.e1,h.m1,ai,tx]
theorem Nu (u:LUrl) (hs:u.Small) (hp0:-9223372036854775808≤u.port) (pre:Tx) (hp:pre.length < 4398046510080) (st:St) (h:UT st u pre) :
 EC Tryz.prog ir202_from5 st (K:=txt (pre++ui u.port++Fu u)):=by
 unfold ir202_from5
 have e5:(⟨#[58]⟩:ByteArray)=bs [58]:=rfl
 by_cases h0:u.port=0
 · have e:pre++ui u.port++Fu u=pre++Fu u:=by simp [ui,h0]
   rw [e]
   simp [h.e1,h.e3,h.m1,ai,tx,num,ae,kb,h0]
   refine E3 u hs pre (by omega) _ ⟨?_,?_,?_⟩<;>simp [h.e1,h.e3,h.m1,ai,tx,num,h0]
 · have e:pre++ui u.port++Fu u=(pre++58 :: x6 u.port)++Fu u:=by simp [ui,h0]
   rw [e]
   simp [h.e1,h.e3,h.m1,ai,tx,num,ae,kb,h0]
   refine ab rfl rfl (.inl rfl) (T5 u.port hp0 hs.2.2.2.2.2.2) ?_
   have hl:=Wt u.port hp0 hs.2.2.2.2.2.2
   simp [tx,num,ae,kb,e5]
   refine ⟨by omega,by omega,?_⟩
   refine E3 u hs (pre++58 :: x6 u.port) (by simp;omega) _ ⟨?_,?_,?_⟩<;>simp [h.e1,h.e3,h.m1,ai,tx,num]
theorem E4 (u:LUrl) (hs:u.Small) (hp0:-9223372036854775808≤u.port) (pre:Tx) (hp:pre.length < 3298534882300) (st:St) (h:UT st u pre) :
 EC Tryz.prog ir202_from4 st (K:=txt (pre++u.host++ui u.port++Fu u)):=by
 unfold ir202_from4
 have hs':=hs
 obtain ⟨s1,s2,s3,s4,s5,s6,s7⟩:=hs
 simp [h.e1,h.e3,h.m1,ai,tx,num,ae,kb]
 refine ⟨by omega,?_⟩
 refine Nu u hs' hp0 (pre++u.host) (by simp;omega) _ ⟨?_,?_,?_⟩<;>simp [h.e1,h.m1,ai,tx,num]
theorem Nv (u:LUrl) (hs:u.Small) (hp0:-9223372036854775808≤u.port) (st:St) (e1:st.env 1=.ptr 1 0) (m1:st.mem 1=.box (ai u)) :
 EC Tryz.prog ir202_from2 st (K:=txt (u.scheme++[58,47,47]++(if u.user=[] then [] else u.user++[64])++u.host++ui u.port++Fu u)):=by
 unfold ir202_from2
 have hs':=hs
 obtain ⟨s1,s2,s3,s4,s5,s6,s7⟩:=hs
 have q1:(⟨#[58,47,47]⟩:ByteArray)=bs [58,47,47]:=rfl
 have q2:(⟨#[]⟩:ByteArray)=bs []:=rfl
 have q3:(⟨#[64]⟩:ByteArray)=bs [64]:=rfl
 by_cases hu:u.user=[]
 · rw [if_pos hu,List.append_nil]
   simp [e1,m1,ai,tx,num,ae,kb,q1,q2,q3,ka,hu]
   refine ⟨by omega,?_⟩
   refine E4 u hs' hp0 (u.scheme++[58,47,47]) (by simp;omega) _ ⟨?_,?_,?_⟩<;>simp [e1,m1,ai,tx,num,hu]
 · rw [if_neg hu]
   simp [e1,m1,ai,tx,num,ae,kb,q1,q2,q3,ka,hu]
   refine ⟨by omega,by omega,by omega,?_⟩
   refine E4 u hs' hp0 (u.scheme++[58,47,47]++(u.user++[64])) (by simp;omega) _ ⟨?_,?_,?_⟩<;>simp [e1,m1,ai,tx,num]
theorem W8 (u:LUrl) (hs:u.Small) (hp0:-9223372036854775808≤u.port):ag Tryz.prog 202 [.val (oq u)] (.ret (.val (tx (uh u))) []) []:=by
 refine aj mixed ok202 rfl (fun _=>rfl) ?_
 unfold ir202
 rw [aa]
 simp [ah,am,ax,ac,af,oq,tx,num,ao]
 refine ab rfl rfl (.inl rfl) (N0 u) ?_
 have q1:(⟨#[58]⟩:ByteArray)=bs [58]:=rfl
 cases hw:qf u.scheme with
 | true=>
  simp
  have e:uh u=u.scheme++[58,47,47]++(if u.user=[] then [] else u.user++[64])++u.host++ui u.port++Fu u:=by simp [uh,hw,Fu]
  rw [e]
  refine Nv u hs hp0 _ ?_ ?_<;>simp [ai,tx,num]
 | false=>
  obtain ⟨s1,s2,s3,s4,s5,s6,s7⟩:=hs
  have e:uh u=u.scheme++[58]++u.path:=by simp [uh,hw]
  rw [e]
  simp [tx,ae,kb,q1]
  omega
end Go.Proofs
end
section
namespace Go.KP
def ym (t:Tx):Int×Bool:=Lib.NumEnd.casesOn (motive:=fun _=>Int×Bool) (Lib.atoiAll t) (fun v=>(v,decide (pz t≤18) && decide (x6 v=t))) (0,false) (Lib.atoiSat t,false)
theorem P3:∀ (u:Tx) (acc:Nat),u.all lw=true→acc*10 ^ u.length+n7 u < 1000000000000000000→Lib.parseUint10 acc u=.ok (acc*10 ^ u.length+n7 u):=by
 have hlv:∀ (u:Tx) (a:Nat),u.foldl (fun n c=>n*10+(c.toNat - 48)) a=a*10 ^ u.length+n7 u:=by
  intro u
  induction u with
  | nil=>intro a;simp [n7]
  | cons c r ih=>
   intro a
   simp only [List.foldl_cons,n7,List.length_cons]
   rw [ih,ih (0*10+(c.toNat - 48)),Nat.pow_succ]
   have:(a*10+(c.toNat - 48))*10 ^ r.length=a*(10 ^ r.length*10)+(c.toNat - 48)*10 ^ r.length:=by
    rw [Nat.add_mul];congr 1;rw [Nat.mul_assoc,Nat.mul_comm 10]
   rw [this];simp [Nat.add_assoc]
 intro u
 induction u with
 | nil=>intro acc _ _;simp [Lib.parseUint10,n7]
 | cons c r ih=>
  intro acc ha hlt
  simp only [List.all_cons,Bool.and_eq_true] at ha
  have hc:=ha.1
  simp only [lw,decide_eq_true_eq] at hc
  have e:acc*10 ^ (c :: r).length+n7 (c :: r)=(acc*10+(c.toNat - 48))*10 ^ r.length+n7 r:=by
   rw [← hlv (c :: r) acc,List.foldl_cons,hlv r]
  rw [e] at hlt ⊢
  have hp:1≤10 ^ r.length:=Nat.one_le_pow _ _ (by decide)
  have hb:acc*10+(c.toNat - 48) < 1000000000000000000:=by
   have:=Nat.le_mul_of_pos_right (acc*10+(c.toNat - 48)) hp
   omega
  rw [Lib.parseUint10.eq_2,if_pos hc,if_neg (by omega),if_neg (by omega)]
  exact ih _ ha.2 hlt
theorem Sm (t:Tx):(if (ym t).2 then some (ym t).1 else none)=om t:=by
 cases hl:om t with
 | some n=>
  obtain ⟨h1,h2,u,h3,h4,h5,h6⟩:=yl hl
  have hv:n7 u < 1000000000000000000:=by
   have:=F3 u h4
   have h7:n7 u < 10 ^ 18:=Nat.lt_of_lt_of_le this (Nat.pow_le_pow_right (by omega) h5)
   have h8:(10:Nat) ^ 18=1000000000000000000:=by decide
   omega
  have hpm:Lib.parseMag u=.ok (n7 u):=by
   unfold Lib.parseMag
   rw [if_neg h3,P3 u 0 h4 (by simpa using hv)]
   simp
  have key:Lib.atoiAll t=.ok n:=by
   unfold Lib.atoiAll
   rcases h6 with ⟨rfl,hn⟩ | ⟨rfl,hn⟩
   · have e45:(45:UInt8).toNat=45:=rfl
     simp only [e45,or_true,if_true,hpm,not_true,false_and,if_false,true_and]
     rw [if_neg (by omega),hn]
   · cases hu:t with
     | nil=>exact absurd hu h3
     | cons c r=>
      have hd:lw c=true:=by rw [hu,List.all_cons,Bool.and_eq_true] at h4;exact h4.1
      simp only [lw,decide_eq_true_eq] at hd
      have e1:¬ c.toNat=43:=by omega
      have e2:¬ c.toNat=45:=by omega
      rw [hu] at hpm hn hv
      simp only [e1,e2,or_self,if_false,not_false_eq_true,true_and,false_and]
      rw [hpm]
      dsimp only
      rw [if_neg (by omega),hn]
  unfold ym
  rw [key]
  simp only [h1,decide_true,Bool.and_true]
  rw [decide_eq_true h2];rfl
 | none=>
  rcases hv:Lib.atoiAll t with v | _ | _<;>unfold ym<;>rw [hv]
  · dsimp only
    by_cases h:(decide (pz t≤18) && decide (x6 v=t))=true
    · simp only [Bool.and_eq_true,decide_eq_true_eq] at h
      have:=K6 v (by rw [h.2];exact h.1)
      rw [h.2,hl] at this
      cases this
    · rw [if_neg h]
  · rfl
  · rfl
theorem Jf {t:Tx} {v:Int} (h:Lib.atoiAll t=.ok v):-9223372036854775808≤v∧v≤9223372036854775807:=by
 unfold Lib.atoiAll at h
 split at h
 · cases h
 · dsimp only at h
   split at h
   · cases h
   · cases h
   · split at h
     · cases h
     · split at h
       · cases h
       · rename_i u _ h1 h2
         injection h with h
         split at h
         · rename_i h3
           have:¬ 9223372036854775808 < u:=fun h4=>h2 ⟨h3,h4⟩
           omega
         · rename_i h3
           have:¬ 9223372036854775808≤u:=fun h4=>h1 ⟨h3,h4⟩
           omega
theorem inum_le {t:Tx} (h:(ym t).2=true):om t=some (ym t).1:=by
 have:=Sm t
 rw [h] at this
 exact this.symm
theorem Ty {t:Tx} (h:(ym t).2=false):om t=none:=by
 have:=Sm t
 rw [h] at this
 exact this.symm
end Go.KP
namespace Go.PW
open Go.RowKit
variable [GF]
theorem U1 {P:Program} {f:Nat} {rs:List RV} {vals:List Value} {p:PV} (ha:svs rs=some vals)
 (h:∀ L w,Globs L w→Jg L w→Calls P f vals.toArray w fun e w'=>(∃ v,e=.returned v∧∀ γ L,RepP γ L w' p v)∧Below w.heap.size w w'):ag P f (rs.map .val) (.ret p []) []:=by
 intro L w vs ms hL hgl hgb hargs hnd
 obtain ⟨rfl,rfl⟩:=L4 ha hargs
 refine (h L w hgl hgb).mono fun e w' ⟨⟨v,he,hp⟩,hb⟩=>?_
 exact ⟨Outside.of_below hb,v,fun _=>undef,he,hp _ _,Ew,rfl,fun i b cells h1 h2=>by simp at h1⟩
end Go.PW
namespace Go.Proofs
open Go.PW Go.KP Go.RowKit
variable [GH]
def sm (t:Tx):PV:=Lib.NumEnd.casesOn (motive:=fun _=>PV) (Lib.atoiAll t) (fun v=>.tup [.val (num v),.val .nilif]) (.tup [.val (num 0),.val (.ifc 278 .opq)]) (.tup [.val (num (Lib.atoiSat t)),.val (.ifc 278 .opq)])
theorem Pe (w:World) (t:ByteArray):Below w.heap.size w (Lib.bytesWorld w 5 t):=Lib.bytesWorld_below _ _ _
theorem Ki {γ:Nat→Value} {L:Nat→Prop} {w:World} {p q:PV} {v u:Value} (h1:RepP γ L w p v) (h2:RepP γ L w q u):RepP γ L w (.tup [p,q]) (.tuple #[v,u]):=
 .tup _ _ rfl fun i hi=>by
  match i,hi with
  | 0,_=>exact h1
  | 1,_=>exact h2
theorem c_Atoi (t:Tx) (ht:t.length < 4294967281):ag Tryz.prog 253 [.val (tx t)] (.ret (sm t) []) []:=by
 refine U1 (rs:=[tx t]) (vals:=[.string (bs t)]) rfl fun L w hgl hgb=>?_
 have hsz:(bs t).size=t.length:=ae t
 rcases h:Lib.atoiAll t with v | _ | _
 · refine (Tryz.strconv_Atoi_ok (bs t) (by rw [hsz];omega) v (by rw [pd];exact h) w).mono fun e w' ⟨he,hw⟩=>?_
   refine ⟨⟨_,he,fun γ L=>?_⟩,?_⟩
   · unfold sm
     rw [h]
     exact Ki (.val _ _ (.int _ _)) (.val _ _ .nilif)
   · rcases hw with hw | ⟨s,hw⟩
     · exact wy hw
     · rw [hw];exact Pe _ _
 · refine (Calls.mono (Any.strconv_Atoi_syntax Tryz.laysC172 (bs t) (by rw [hsz];omega) (by rw [pd];exact h) _ w (hgl _ GH.hs).2 (.inr ⟨_,_,rfl⟩)) fun e w' ⟨N,he,_,_,hw⟩=>?_)
   refine ⟨⟨_,he,fun γ L=>?_⟩,hw⟩
   unfold sm
   rw [h]
   exact Ki (.val _ _ (.int _ _)) (.val _ _ (.ifc _ _ _ (.opq _ rfl)))
 · refine (Tryz.strconv_Atoi_range (bs t) (by rw [hsz];omega) (by rw [pd];exact h) _ w (hgl _ GH.hr).2 (.inr ⟨_,_,rfl⟩)).mono fun e w' ⟨N,he,_,_,hw⟩=>?_
   refine ⟨⟨_,he,fun γ L=>?_⟩,hw⟩
   unfold sm
   rw [h]
   rw [pd]
   exact Ki (.val _ _ (.int _ _)) (.val _ _ (.ifc _ _ _ (.opq _ rfl)))
def F4 (t:Tx):PV:=.tup [.val (num (ym t).1),.val (.bool (ym t).2)]
theorem Cz (t:Tx) (ht:t.length < 4294967281) (st:St) (h0:st.env 0=.val (tx t)) (h6:st.env 6=.val (num (pz t)))
 (h45:(∃ v,Lib.atoiAll t=.ok v∧st.env 4=.val (num v)∧st.env 5=.val .nilif)∨(∃ n,(ym t)=(n,false)∧st.env 4=.val (num n)∧st.env 5=.val (.ifc 278 .opq))) :
 EC Tryz.prog ir242_from4 st (K:=⟨sw [.t 2,.t 3] (F4 t)⟩):=by
 unfold ir242_from4 F4
 rcases h45 with ⟨v,hv,h4,h5⟩ | ⟨n,hn,h4,h5⟩
 · have hr:=Jf hv
   have e:ym t=(v,decide (pz t≤18) && decide (x6 v=t)):=by unfold ym;rw [hv]
   rw [e]
   by_cases hd:pz t≤18
   · have hd':(pz t:Int)≤18:=by omega
     simp [h0,h4,h5,h6,tx,num,hd']
     refine ab rfl rfl (.inl rfl) (X2 v hr.1 hr.2) ?_
     simp [h0,h4,h5,h6,tx,num,ka,hd]
   · have hd':¬ (pz t:Int)≤18:=by omega
     simp [h0,h4,h5,h6,tx,num,hd',hd]
 · rw [hn]
   simp [h0,h4,h5,h6,tx,num]
theorem Xb (t:Tx) (ht:t.length < 4294967281):ag Tryz.prog 242 [.val (tx t)] (.ret (F4 t) []) []:=by
 refine aj mixed ok242 rfl (fun _=>rfl) ?_
 unfold ir242
 rw [aa]
 have e3:(⟨#[]⟩:ByteArray)=bs []:=rfl
 have hA:=c_Atoi t ht
 simp [ah,am,ax,ac,af,tx]
 have hmid:∀ (a b:RV),sm t=.tup [.val a,.val b]→((∃ v,Lib.atoiAll t=.ok v∧a=num v∧b=.nilif)∨(∃ n,(ym t)=(n,false)∧a=num n∧b=.ifc 278 .opq)):=by
  intro a b h
  rcases hv:Lib.atoiAll t with v | _ | _
  · have e:sm t=.tup [.val (num v),.val .nilif]:=by unfold sm;rw [hv]
    rw [e] at h
    simp only [PV.tup.injEq,List.cons.injEq,PV.val.injEq] at h
    exact .inl ⟨v,rfl,h.1.symm,h.2.1.symm⟩
  · have e:sm t=.tup [.val (num 0),.val (.ifc 278 .opq)]:=by unfold sm;rw [hv]
    have e2:ym t=(0,false):=by unfold ym;rw [hv]
    rw [e] at h
    simp only [PV.tup.injEq,List.cons.injEq,PV.val.injEq] at h
    exact .inr ⟨0,e2,h.1.symm,h.2.1.symm⟩
  · have e:sm t=.tup [.val (num (Lib.atoiSat t)),.val (.ifc 278 .opq)]:=by unfold sm;rw [hv]
    have e2:ym t=(Lib.atoiSat t,false):=by unfold ym;rw [hv]
    rw [e] at h
    simp only [PV.tup.injEq,List.cons.injEq,PV.val.injEq] at h
    exact .inr ⟨Lib.atoiSat t,e2,h.1.symm,h.2.1.symm⟩
 obtain ⟨a,b,hab⟩:∃ a b,sm t=.tup [.val a,.val b]:=by
  unfold sm
  rcases Lib.atoiAll t with v | _ | _<;>exact ⟨_,_,rfl⟩
 have hm:=hmid a b hab
 rw [hab] at hA
 refine o5 rfl rfl (.inl rfl) hA ?_
 cases t with
 | nil=>
  simp [tx,ae,e3,ka]
  refine Cz [] ht _ ?_ ?_ ?_
  · simp [tx]
  · simp [num,pz]
  · rcases hm with ⟨v,h1,rfl,rfl⟩ | ⟨n,h1,rfl,rfl⟩
    · exact .inl ⟨v,h1,by simp,by simp⟩
    · exact .inr ⟨n,h1,by simp,by simp⟩
 | cons c r=>
  have hr:r.length < 4294967280:=by simp at ht;omega
  have e0:(0:Int) < ((r.length:Int)+1):=by omega
  have fin:∀ st':St,st'.env 0=.val (tx (c :: r))→st'.env 6=.val (num (pz (c :: r)))→st'.env 4=.val a→st'.env 5=.val b→EC Tryz.prog ir242_from4 st' (K:=⟨sw [.t 2,.t 3] (F4 (c :: r))⟩):=fun st' q0 q6 q4 q5=>by
   refine Cz (c :: r) ht st' q0 q6 ?_
   rcases hm with ⟨v,h1,rfl,rfl⟩ | ⟨n,h1,rfl,rfl⟩
   · exact .inl ⟨v,h1,q4,q5⟩
   · exact .inr ⟨n,h1,q4,q5⟩
  by_cases hc:c=45
  · have e1:((c.toNat:Int)=45):=by rw [hc];rfl
    have hw:IntKind.i64.wrap ((r.length:Int)+1 - 1)=(r.length:Int):=by rw [wrap_i64 (by omega) (by omega)];omega
    simp [tx,ae,e3,ka,ar,e0,e1,hw]
    refine fin _ ?_ ?_ ?_ ?_
    · simp [tx]
    · simp [num,pz,hc];exact wrap_i64 (by omega) (by omega)
    · simp
    · simp
  · have e1:¬ ((c.toNat:Int)=45):=fun h=>hc (UInt8.toNat_inj.1 (by simp;omega))
    simp [tx,ae,e3,ka,ar,e0,e1]
    refine fin _ ?_ ?_ ?_ ?_
    · simp [tx]
    · simp [num,pz,hc]
    · simp
    · simp
end Go.Proofs
end
section
namespace Go.Proofs
open Go.PW Go.KP Go.RowKit
def sn (t:Tx) (k j:Nat):UInt8:=if j < k then Ng (t.getD j 0) else t.getD j 0
def Cl (t:Tx) (B k:Nat) (wr:World):Prop:=
 (∀ j,j < t.length→wr.cell? ⟨B,j,none⟩=some (.int .u8 ((sn t k j).toNat:Int)))∧(∀ j,j < t.length→wr.frozen? ⟨B,j,none⟩=false)
theorem K3 (t:Tx) (w:World) (cap:Nat):Cl t w.heap.size 0 (w.alloc (.cells (bytesRow (bs t) cap) 5 ((bytesRow (bs t) cap).size,(bytesRow (bs t) cap).size+1))):=by
 have hsz:(bs t).data.size=t.length:=by simp [bs]
 refine ⟨fun j hj=>?_,fun j hj=>?_⟩
 · rw [World.cell?_alloc_mark,bytesRow_at (bs t) cap j (by omega)]
   simp [sn,bs,hj]
 · rw [World.frozen?_alloc_mark]
   have:t.length≤(bytesRow (bs t) cap).size:=by simp [bytesRow,bs]
   have h2:¬ (bytesRow (bs t) cap).size≤j:=by omega
   simp [h2]
theorem Qf {t:Tx} {B k:Nat} {wr:World} (hk:k < t.length) (h:Cl t B k wr) (h1:(65:Int)≤((sn t k k).toNat:Int)) (h2:((sn t k k).toNat:Int)≤90) :
 Cl t B (k+1) (wr.setCell ⟨B,k,none⟩ (.int .u8 (((sn t k k).toNat:Int)+32))):=by
 have e0:sn t k k=t.getD k 0:=by simp [sn]
 rw [e0] at h1 h2 ⊢
 refine ⟨fun j hj=>?_,fun j hj=>by rw [World.frozen?_setCell];exact h.2 j hj⟩
 by_cases e:j=k
 · subst e
   rw [World.cell?_setCell_same _ _ _ (h.1 j hj)]
   have:sn t (j+1) j=t.getD j 0+32:=by
    simp only [sn,Nat.lt_succ_self,if_true,Ng]
    rw [if_pos (by omega)]
   rw [this]
   congr 2
   rw [UInt8.toNat_add]
   have e32:(32:UInt8).toNat=32:=rfl
   rw [e32]
   omega
 · rw [World.cell?_setCell_other _ _ _ _ (by simp<;>omega),h.1 j hj]
   have:sn t (k+1) j=sn t k j:=by
    unfold sn
    by_cases hjk:j < k
    · rw [if_pos hjk,if_pos (by omega)]
    · rw [if_neg hjk,if_neg (by omega)]
   rw [this]
theorem E1 {t:Tx} {B k:Nat} {wr:World} (h:Cl t B k wr) (h1:¬ ((65:Int)≤((sn t k k).toNat:Int)∧((sn t k k).toNat:Int)≤90)):Cl t B (k+1) wr:=by
 have e0:sn t k k=t.getD k 0:=by simp [sn]
 rw [e0] at h1
 refine ⟨fun j hj=>?_,h.2⟩
 rw [h.1 j hj]
 have:sn t (k+1) j=sn t k j:=by
  unfold sn
  by_cases hjk:j < k
  · rw [if_pos hjk,if_pos (by omega)]
  · by_cases e:j=k
    · subst e
      rw [if_pos (by omega),if_neg (by omega)]
      unfold Ng
      rw [if_neg (by omega)]
    · rw [if_neg hjk,if_neg (by omega)]
 rw [this]
theorem Tn {t:Tx} {j:Nat} (hj:j < (mi t).length):sn t t.length j=(mi t)[j]:=by
 have hj':j < t.length:=by simpa [mi] using hj
 unfold sn
 rw [if_pos hj',vw _ _ _ hj']
 simp [mi]
theorem Nf {t:Tx} {B:Nat} {wr:World} (hR:Cl t B t.length wr) (cap:Nat):(convert 183 9 (.slice (some ⟨B,0,none⟩) t.length cap)).run Tryz.prog wr=.ok (.string (bs (mi t))) wr:=by
 have hll:(mi t).length=t.length:=by simp [mi]
 have hback:=run_convert_bytes_back (P:=Tryz.prog) wr 183 9 5 ⟨B,0,none⟩ cap (mi t) Tryz.underlying183 Tryz.underlying5 Tryz.underlying9 (fun j hj=>by
  have h1:=hR.1 j (by omega)
  rw [Tn hj] at h1
  have e:(Addr.add ⟨B,0,none⟩ j)=⟨B,j,none⟩:=by simp [Addr.add];omega
  rw [e]
  exact h1)
 rw [hll] at hback
 exact hback
set_option maxRecDepth 1000000 in
theorem Qe (t:Tx) (w:World) (hl:t.length < 4294967281) :
 Calls Tryz.prog 239 #[.string (bs t)] w fun e w'=>e=.returned (.string (bs (mi t)))∧Below w.heap.size w w':=by
 have hsz:(bs t).size=t.length:=ae t
 have hconv:=run_bytes_of_string (P:=Tryz.prog) w 9 183 5 (bs t) Tryz.underlying9 Tryz.underlying183 Tryz.underlying5
 have hll:(mi t).length=t.length:=by simp [mi]
 go_enter Tryz.func239,Tryz.ntmps239
 go_wp2
 go_loopw [10] (fun i wr=>∃ k:Nat,k≤t.length∧i=.int .i64 k∧Cl t w.heap.size k wr∧Below w.heap.size w wr)
  (fun i _=>t.length - (intOf i).toNat)
 case atStart=>
  refine ⟨0,Nat.zero_le _,rfl,?_,?_⟩
  · have:=K3 t w (grownCap w t.length 0 5)
    exact ⟨this.1,this.2⟩
  · exact ((Below.refl _ w).alloc (Nat.le_refl _) _).drew
 case round=>
  obtain ⟨k,hk,rfl,hR,hnx⟩:=hrel
  have hck:k < t.length→wr.cell? ⟨w.heap.size,k,none⟩=some (.int .u8 ((sn t k k).toNat:Int)):=fun h=>hR.1 k h
  have hfk:k < t.length→wr.frozen? ⟨w.heap.size,k,none⟩=false:=fun h=>hR.2 k h
  go_wp2
  · refine ⟨⟨k+1,by omega,by first | rfl | simp,Qf (by assumption) hR (by assumption) (by assumption),hnx.setCell (Nat.le_refl _) _⟩,?_⟩
    simp [intOf];omega
  · refine ⟨⟨k+1,by omega,by first | rfl | simp,E1 hR (by omega),hnx⟩,?_⟩
    simp [intOf];omega
  · refine ⟨⟨k+1,by omega,by first | rfl | simp,E1 hR (by omega),hnx⟩,?_⟩
    simp [intOf];omega
  · have hkn:k=t.length:=by omega
    subst hkn
    have hback':=Nf (wr:=wr) hR (grownCap w t.length 0 5)
    rw [hback']
    go_wp2
    go_ret
    exact ⟨rfl,hnx⟩
section
variable [GF]
theorem So (t:Tx) (hl:t.length < 4294967281):ag Tryz.prog 239 [.val (tx t)] (.ret (.val (tx (mi t))) []) []:=
 tq (rs:=[tx t]) (vals:=[.string (bs t)]) (v:=.string (bs (mi t))) rfl rfl fun L w hgl hgb=>Qe t w hl
end
end Go.Proofs
end
section
namespace Go.Proofs
open Go.PW Go.KP
variable [GH]
theorem P7 {K:Kx (PExit→St→Prop)} (t:Tx) (i n:Nat) (c:UInt8) (b:Bool) (st:St) (e0:st.env 0=.val (tx t)) (e3:st.env 3=.val (num i)) (e4:st.env 4=.val (rvb c)) (e5:st.env 5=.val (.bool b)) (e11:st.env 11=.val (num n)) (e12:st.env 12=.val (num i))
 (hgood:(b || (!decide (i=0) && lw c))=true→∀ st':St,st'.env 0=.val (tx t)→st'.env 11=.val (num n)→st'.env 12=.val (num i)→K.k .normal st')
 (iq:(b || (!decide (i=0) && lw c))=false→∀ st':St,st'.env 2=.val (.bool false)→K.k .ret st') :
 EC Tryz.prog ir137_s36 st (K:=K):=by
 unfold ir137_s36
 cases b with
 | true=>
  simp [e5]
  exact hgood (by simp) _ (by simp [e0]) (by simp [e11]) (by simp [e12])
 | false=>
  by_cases h0:i=0
  · subst h0
    simp [e5,e3,e4,num]
    exact iq (by simp) _ (by simp)
  · have f1:((c.toNat:Int) < 48)↔c.toNat < 48:=by omega
    have f2:((57:Int) < c.toNat)↔57 < c.toNat:=by omega
    by_cases h1:c.toNat < 48
    · simp [e5,e3,e4,num,rvb,h0,f1,h1]
      exact iq (by simp [lw];omega) _ (by simp)
    · by_cases h2:57 < c.toNat
      · simp [e5,e3,e4,num,rvb,h0,f1,h1,f2,h2]
        exact iq (by simp [lw];omega) _ (by simp)
      · simp [e5,e3,e4,num,rvb,h0,f1,h1,f2,h2]
        exact hgood (by simp [lw,h0];omega) _ (by simp [e0]) (by simp [e11,num]) (by simp [e12,num])
theorem Hh (t:Tx) (ht:t.length < 1099511627776):ag Tryz.prog 137 [.val (tx t)] (.ret (.val (.bool (re t))) []) []:=by
 refine aj mixed ok137 rfl (fun _=>rfl) ?_
 unfold ir137
 rw [aa]
 simp [ah,am,ax,ac,af,tx,ae]
 refine ab rfl rfl (.inl rfl) (mc t.length 1 12) ?_
 by_cases hlen:1≤t.length∧t.length≤12
 rotate_left
 · rw [show decide ((1:Int)≤t.length∧(t.length:Int)≤12)=false from decide_eq_false (by omega)]
   have:re t=false:=by unfold re;rw [decide_eq_false hlen];rfl
   simp [this]
 rw [show decide ((1:Int)≤t.length∧(t.length:Int)≤12)=true from decide_eq_true (by omega)]
 have hw:re t=ox rq ut t:=by unfold re;rw [decide_eq_true hlen];rfl
 simp [ae]
 refine ay (X:=Nat) (fun i=>⟨co [(0,.val (tx t)),(11,.val (num t.length)),(12,.val (num i))],cu []⟩) (fun i=>i≤t.length∧ox rq ut (t.take i)=true) (fun i=>t.length - i) 0 (Le.mk _ _ ?_ ?_) ?_ ?_
 · simp [upd,tx,num]
 · simp
 · simp [ox]
 · rintro i ⟨hi,hall⟩
   simp [num]
   refine ak (fun h3=>?_) (fun h3=>?_)
   · have hstep:=uj (p:=rq) (q:=ut) (fun _ h=>xe h) t i h3
     rw [hall,Bool.true_and] at hstep
     have iq:=td (p:=rq) (q:=ut) t i h3
     have e1:((97:Int)≤t[i].toNat)↔97≤t[i].toNat:=by omega
     have e2:((t[i].toNat:Int)≤122)↔t[i].toNat≤122:=by omega
     have e3:((65:Int)≤t[i].toNat)↔65≤t[i].toNat:=by omega
     have e4:((t[i].toNat:Int)≤90)↔t[i].toNat≤90:=by omega
     have e5:((t[i].toNat:Int)=95)↔t[i].toNat=95:=by omega
     have key:∀ (b:Bool) (st':St),b=rq t[i]→st'.env 0=.val (tx t)→st'.env 3=.val (num i)→st'.env 4=.val (rvb t[i])→st'.env 5=.val (.bool b)→st'.env 11=.val (num t.length)→st'.env 12=.val (num i)→True:=fun _ _ _ _ _ _ _ _ _=>trivial
     have hg:(rq t[i] || (!decide (i=0) && lw t[i]))=true→(if i=0 then rq t[i] else ut t[i])=true:=fun h=>by
      by_cases h0:i=0
      · subst h0;simpa using h
      · simpa [h0,ut] using h
     have hb:(rq t[i] || (!decide (i=0) && lw t[i]))=false→(if i=0 then rq t[i] else ut t[i])=false:=fun h=>by
      by_cases h0:i=0
      · subst h0;simpa using h
      · simpa [h0,ut] using h
     by_cases h1:97≤t[i].toNat<;>by_cases h2:t[i].toNat≤122<;>by_cases h4:65≤t[i].toNat<;>by_cases h5:t[i].toNat≤90<;>by_cases h6:t[i].toNat=95<;>first
      | (exfalso;omega)
      | (simp [num,tx,ae,ar,h3,e1,e2,e3,e4,e5,h1,h2,h4,h5,h6]
         refine P7 t i t.length t[i] (rq t[i]) _ (by simp [tx]) (by simp [num]) (by simp [rvb,h6]) (by simp [rq,lz,isUp,e1,e2,e3,e4,e5,h1,h2,h4,h5,h6]) (by simp [num]) (by simp [num]) (fun hh st' q0 q11 q12=>?_) (fun hh st' q2=>?_)
         · simp [q12,num]
           refine LoopNext.mk (i+1) ⟨by omega,by rw [hstep];exact hg hh⟩ (by omega) (Le.mk _ _ ?_ ?_)
           · simp [q0,q11,num];exact wrap_i64 (by omega) (by omega)
           · simp
         · have:re t=false:=by rw [hw];exact iq (hb hh)
           simp [q2,this])
   · have e:i=t.length:=by omega
     subst e
     rw [List.take_length] at hall
     simp [hw,hall]
end Go.Proofs
end
