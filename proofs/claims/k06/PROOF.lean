import PyProof.Rows.All
import Wide.All
import OpenK.AllK
import Wide.FinOn
import HandS.ForMost
import HandS.ForExc
import HandS.IsInst
import HandS.TupAny
import HandS.TupMul
import HandS.Deep
import HandS.Wide
import KE.SortData
import KE.LtData
import KE.KDictPairs
import KE.DataCmp
import HandS.Text
import HandS.TupLen
import HandS.StrMore
import HandS.Replace
import HandS.Small
import HandS.Style
import HandS.Set
import HandS.SetFor
import KE.KStateDown
import Lean
import HandS.More
import HandS.Defaults
import HandS.Head0
import HandS.Head1
import HandS.Head2
import HandS.HeadEnd
import HandS.HeadHook1
import HandS.HeadHook2
import KE.GoesEnum
import HandS.Conv
import KE.KDictWalk
import HandS.ListItems
import KE.KDictKeyed
import PyProof.TupleOfSeq
import HandS.TupLe
import KE.KDictList
import HandS.TupSets
import HandS.Strs
import HandS.Flow
import HandS.ExcIs
import HandS.TryMany
import HandS.HotCalls
import HandS.DictTup
import HandS.ExcInit
import HandS.ExcField
import HandS.ClsMeth
import KE.KExcIs
import HandS.SetKeys
import KE.KDictZip
import KE.KItemsList
import HandS.Zip
import KE.GoesMore
import KE.DataFind
import KE.DataMinMax
import KE.KTupSum
import PyProof.StrBlock2
import HandS.SuiteRaise
import HandS.ExcInitHot
import KE.DatumOrd
import PySem.Challenge.RW_weave_k06_stocks_as_texts
def yaa:=@List.mem_cons_self
def yab:=@List.mem_cons_of_mem
def yac:=@List.length_map
def yad:=@List.getElem?_eq_getElem
def yae:=@List.perm_middle
def yaf:=@List.getElem?_eq_some_iff
def yag:=@List.mem_append_right
def yah:=@List.append_assoc
def yai:=@of_decide_eq_true
def yaj:=@decide_eq_true
def yak:=@decide_eq_true_eq
def yal:=@List.mem_map
def yam:=@List.all_eq_true
def yan:=@List.mem_append_left
def yao:=@List.mem_cons
def yap:=@Bool.and_eq_true
def yaq:=@List.length_cons
def yar:=@List.mem_singleton
def yas:=@List.mem_append
def yat:=@Bool.false_ne_true
def yau:=@List.map_cons
def yav:=@List.mem_range
def yaw:=@Nat.le_refl
def yax:=@List.length_append
def yay:=@List.getD_eq_getElem?_getD
def yaz:=@List.perm_append_comm
def yaA:=@List.getElem?_map
def yaB:=@List.getElem?_set_ne
def yaC:=@PySem.boot_len
def yaD:=@Nat.le_of_ble_eq_true
def yaE:=@List.append_nil
def yaF:=@List.not_mem_nil
def yaG:=@PySem.F.plainAttrs_str
def yaH:=@if_neg
def yaI:=@List.length_range
def yaJ:=@Option.map_eq_some_iff
def yaK:=@List.map_map
def yaL:=@Bool.and_eq_true_iff
def yaM:=@if_pos
def yaN:=@decide_eq_false
def yaO:=@List.getElem?_set_self
def yaP:=@List.mem_of_getElem?
def yaQ:=@Option.some.inj
def yaR:=@Bool.true_and
def yaS:=@Int.toNat_natCast
def yaT:=@List.contains_iff_mem
def yaU:=@Array.length_toList
def yaV:=@List.mem_flatMap
def yaW:=@decide_eq_decide
def yaX:=@congrArg
def yaY:=@List.getElem?_eq_none
def yaZ:=@Bool.or_eq_true
def ya0:=@He.glo_ok
def ya1:=@List.mem_filter
def ya2:=@List.length_nil
def ya3:=@Bool.not_true
def ya4:=@Nat.zero_le
def ya5:=@Nat.le_trans
def ya6:=@PySem.F.slot_str_join
def ya7:=@PySem.F.type_str_join
def ya8:=@List.nodup_cons
def ya9:=@Bool.false_eq_true
def yba:=@List.map_append
def ybb:=@TL.len_tl
def ybc:=@List.nodup_append
def ybd:=@List.getElem?_range
def ybe:=@List.drop_eq_getElem_cons
def ybf:=@Eq.trans
def ybg:=@Bool.eq_iff_iff
def ybh:=@List.set_cons_succ
def ybi:=@List.set_cons_zero
def ybj:=@List.mem_filterMap
def ybk:=@Int.emod_lt_of_pos
def ybl:=@List.mem_of_mem_take
def ybm:=@List.ext_getElem?
def ybn:=@List.length_set
def ybo:=@List.find?_cons
def ybp:=@List.mergeSort_perm
def ybq:=@Prod.mk.inj
def ybr:=@List.nodup_nil
def ybs:=@List.set_eq_of_length_le
def ybt:=@List.size_toArray
def ybu:=@Int.emod_nonneg
def ybv:=@List.Nodup.idxOf_getElem
def ybw:=@He.free_ok
def ybx:=@Nat.zero_add
def yby:=@List.sum_cons
def ybz:=@PySem.F.plainAttrs_list
def ybA:=@List.length_take
def ybB:=@PySem.F.slot_str_split
def ybC:=@PySem.F.type_str_split
def ybD:=@List.set_set
def ybE:=@decide_false
def ybF:=@List.flatten_cons
def ybG:=@Bool.not_eq_true'
def ybH:=@List.pairwise_map
def ybI:=@List.mem_of_mem_drop
def ybJ:=@List.length_drop
def ybK:=@List.replicate_succ
def ybL:=@List.toList_toArray
def ybM:=@Option.isSome_iff_exists
def ybN:=@PySem.F.slot_list_append
def ybO:=@PySem.F.type_list_append
def ybP:=@List.any_cons
def ybQ:=@List.all_cons
def ybR:=@List.pairwise_cons
def ybS:=@List.filter_eq_nil_iff
def ybT:=@Nat.lt_succ_of_lt
def ybU:=@List.drop_length
def ybV:=@List.getElem_mem
def ybW:=@List.nodup_range
def ybX:=@Nat.succ_ne_zero
def ybY:=@decide_true
def ybZ:=@List.length_zip
def yb0:=@Int.toNat_of_nonneg
def yb1:=@List.getElem?_append_right
def yb2:=@Nat.lt_of_lt_of_le
def yb3:=@Nat.sub_zero
def yb4:=@List.all_map
def yb5:=@List.map_mergeSort
def yb6:=@Nat.ne_of_lt
def yb7:=@or_false
def yb8:=@Int.lt_of_le_of_lt
def yb9:=@Int.natCast_nonneg
def yca:=@List.getElem?_append_left
def ycb:=@Nat.le_succ_of_le
def ycc:=@Option.some.injEq
def ycd:=@List.Pairwise.imp_of_mem
def yce:=@Option.bind_eq_some_iff
def ycf:=@List.set_comm
def ycg:=@List.pairwise_mergeSort
def ych:=@if_false
def yci:=@Bool.and_true
def ycj:=@List.getElem?_cons_succ
def yck:=@List.any_eq_true
def ycl:=@Nat.succ_le_succ
def ycm:=@Array.all_toList
def ycn:=@List.getElem_map
def yco:=@L2.Vals.nil_iff
def ycp:=@Option.map_some
def ycq:=@List.of_mem_zip
def ycr:=@Nat.min_self
def ycs:=@List.foldl_cons
def yct:=@beq_iff_eq
def ycu:=@List.drop_zero
def ycv:=@Bool.and_false
def ycw:=@Bool.false_and
def ycx:=@Nat.add_le_add
def ycy:=@Nat.lt_irrefl
def ycz:=@He.eqO_ok
def ycA:=@Bool.false_or
def ycB:=@Ne.symm
def ycC:=@if_true
set_option Elab.async false
set_option linter.all false
set_option maxRecDepth 100000
namespace VW
open PySem L2
set_option maxHeartbeats 8000000
def subX (x n:Str):Bool:=x==n||(n == "WeaveError" || n == "ValueError")
def xcB (K:PySem.W.Frag) (x:Str):Bool :=
 He.eqO (PySem.W.findIn K (.ref (He.ga K x)) "__getattribute__") (some (some (.builtin "BaseException.__getattribute__")))&&(He.eqO (PySem.W.findIn K (.ref (He.ga K x)) "__getattr__") (some none) &&
 (decide (PySem.W.subIn K (.ref (He.ga K x)) (.type "BaseException")=some true)&&(PySem.W.hasDictIn K (He.ga K x)&&(He.eqO (PySem.W.findIn K (.ref (He.ga K x)) "__class__") (some (some (.builtin "object.__class__")))&&decide (PySem.W.mroIn K (He.ga K x) (.type "object")=some true)))))
def xsB (NS NP:List Str) (K:PySem.W.Frag):Bool :=
 NP.all (λx=>(He.Fa.exc x).ok K)&&NS.all λx=>(He.Fa.glo x).ok K&&(xcB K x&&(decide (PySem.W.kitOne K (.ref (He.ga K x)) (.type "ValueError")=some true) &&
  NS.all λy=>decide (PySem.W.exmOne K (.ref (He.ga K x)) (.ref (He.ga K y))=some (subX x y))&&decide (PySem.W.kitOne K (.ref (He.ga K x)) (.ref (He.ga K y))=some (subX x y))))
abbrev AlX:Type:=Bool×He.AlD
def obsX (fx:PySem.W.Frag->Bool) (fa:List He.Fa) (fn:List He.DefD) (K:PySem.W.Frag):AlX:=(fx K,He.obsD fa fn K)
def ocB (K:PySem.W.Frag) (C:Addr):Bool:=match K.lookup C with
 | some ⟨.type "type",_,.cls cd,sl⟩=>(match cd.mro,sl.toList with
   | .ref C'::bm,[_,_,_,_,some (.builtin n),_]=>decide (C'=C)&&(decide (n = "ValueError.__new__")&&(!cd.hasDel&&(cd.hasDict&&PySem.HandSPX.refsVE bm)))
   | _,_=>false)
 | _=>false
def baB (K:PySem.W.Frag):Bool:=(He.Fa.glo "WeaveError").ok K&&(PySem.W.readsIn K (He.ga K "WeaveError") (.type "type")&&(He.eqO (PySem.W.specialIn K (.ref (He.ga K "WeaveError")) "__getattribute__") (some (some (.builtin "type.__getattribute__"))) &&
 (match PySem.W.findCls K (.ref (He.ga K "WeaveError")) (.type "type") "__init__" with
 | some (.val (.builtin n))=>decide (n = "ValueError.__init__")
 | _=>false)))
def xdB (x f:Str) (K:PySem.W.Frag):Bool:=ocB K (He.ga K x)&&(He.eqO (PySem.W.findIn K (.ref (He.ga K x)) "__setattr__") (some (some (.builtin "object.__setattr__")))&&(decide (PySem.W.subIn K (.ref (He.ga K x)) (.type "BaseException")=some true) &&
 (decide (PySem.W.typeIn K (.ref (He.ga K x))=some (.type "type"))&&(PySem.W.keepIn K (.ref (He.ga K x))&&((He.Fa.noat x f).ok K&&(He.Fa.meth x "__init__").ok K)))))
def nfB (NS FS:List Str) (K:PySem.W.Frag):Bool:=NS.all λx=>FS.all λf=>(He.Fa.noat x f).ok K
def xsFB (NS NP FS:List Str) (XD:List (Str×Str)) (K:PySem.W.Frag):Bool:=xsB NS NP K&&(baB K&&(nfB NS FS K&&XD.all λp=>xdB p.1 p.2 K))
def zux (fx:PySem.W.Frag->Bool) (n:Nat) (fa:List He.Fa) (fn:List He.DefD) (g:Addr->Option Obj):AlX:=obsX fx fa fn (He.frG g (He.asD g n++[PySem.cStatics]))
def hookY (fx:PySem.W.Frag->Bool) (n:Nat) (fa:List He.Fa) (fn:List He.DefD):PySem.W.Hook where
 α:=AlX
 obs:=λs=>zux fx n fa fn s.heap.get?
 val:=λ_=>(true,He.valD fn)
 says:=λ_ h=>∃ K:PySem.W.Frag,K.In h/\fx K=true/\He.SaysD fa fn K
 of:=λ_ _ e=>⟨_,He.frG_in,yaX Prod.fst e,yaX Prod.snd e⟩
 keeps:=λ_ _ _ ⟨K,hK,c⟩ k=>⟨K,PySem.W.Frag.In.keeps hK k,c⟩
namespace LK06
def top (i:Nat):Stmt:=PySem.Challenge.pw_weave_k06_stocks_as_texts.main.body.getD i (.Pass ⟨0,0,0,0⟩)
abbrev nsX:List Str:=["WeaveError", "NoStock", "NoNet", "NoRule", "NoPlace", "Shared", "NoText", "NoRow", "NoRoad", "Twice"]
abbrev npX:List Str:=["WeaveError", "NoStock", "NoNet", "NoRule", "NoPlace", "Shared"]
abbrev fsX:List Str:=["at", "name"]
abbrev xdX:List (Str×Str):=[("NoText", "at"),("Twice", "name")]
abbrev zd5:Stmt:=top 16
abbrev zd6:Stmt:=top 17
abbrev zbT:Stmt:=top 18
abbrev zdl:Stmt:=top 19
abbrev zcK:Stmt:=top 21
abbrev zcL:Stmt:=top 22
abbrev zcM:Stmt:=top 23
abbrev zb8:Stmt:=top 24
abbrev zbU:Stmt:=top 26
abbrev zcN:Stmt:=top 27
abbrev zb9:Stmt:=top 28
abbrev zca:Stmt:=top 29
abbrev zcb:Stmt:=top 30
abbrev zbP:Stmt:=top 31
abbrev zcc:Stmt:=top 32
abbrev zcO:Stmt:=top 33
abbrev zbq:Stmt:=top 34
abbrev zcP:Stmt:=top 35
abbrev zcQ:Stmt:=top 36
abbrev zdm:Stmt:=top 37
abbrev zdn:Stmt:=top 38
abbrev zmU:Stmt:=top 39
def zuy:Stmt->List Stmt
 | .ClassDef _ _ _ b _ _ _ _ _ _ _=>b
 | _=>[]
def met (i j:Nat):Stmt:=(zuy (top i)).getD j (.Pass ⟨0,0,0,0⟩)
abbrev zcZ:Stmt:=met 7 0
abbrev zdF:Stmt:=met 10 0
def zlC:He.DefD:=⟨("is_name",none), "is_name", "is_name",defArgs zd5,defBody zd5,defScope zd5,[],[]⟩
def zlD:He.DefD:=⟨("is_spec",none), "is_spec", "is_spec",defArgs zd6,defBody zd6,defScope zd6,[],[]⟩
def zgK:He.DefD:=⟨("is_kind_row",none), "is_kind_row", "is_kind_row",defArgs zbT,defBody zbT,defScope zbT,[],[]⟩
def zj7:He.DefD:=⟨("is_stock",none), "is_stock", "is_stock",defArgs zdl,defBody zdl,defScope zdl,[],[]⟩
def ziG:He.DefD:=⟨("read_spec",none), "read_spec", "read_spec",defArgs zcK,defBody zcK,defScope zcK,[],[]⟩
def ziH:He.DefD:=⟨("show_kind",none), "show_kind", "show_kind",defArgs zcL,defBody zcL,defScope zcL,[],[]⟩
def ziI:He.DefD:=⟨("read_kind",none), "read_kind", "read_kind",defArgs zcM,defBody zcM,defScope zcM,[],[]⟩
def zhP:He.DefD:=⟨("read_stock",none), "read_stock", "read_stock",defArgs zb8,defBody zb8,defScope zb8,[],[]⟩
def zgL:He.DefD:=⟨("_law_digits",none), "_law_digits", "_law_digits",defArgs zbU,defBody zbU,defScope zbU,[],[]⟩
def ziJ:He.DefD:=⟨("_law_take",none), "_law_take", "_law_take",defArgs zcN,defBody zcN,defScope zcN,[],[]⟩
def zhQ:He.DefD:=⟨("_law_words",none), "_law_words", "_law_words",defArgs zb9,defBody zb9,defScope zb9,[],[]⟩
def zhR:He.DefD:=⟨("_law_stock",none), "_law_stock", "_law_stock",defArgs zca,defBody zca,defScope zca,[],[]⟩
def zhS:He.DefD:=⟨("_law_order",none), "_law_order", "_law_order",defArgs zcb,defBody zcb,defScope zcb,[],[]⟩
def zhT:He.DefD:=⟨("_law_kinds",none), "_law_kinds", "_law_kinds",defArgs zbP,defBody zbP,defScope zbP,[],[]⟩
def zhU:He.DefD:=⟨("_law_asked",none), "_law_asked", "_law_asked",defArgs zcc,defBody zcc,defScope zcc,[],[]⟩
def ziK:He.DefD:=⟨("_law_text",none), "_law_text", "_law_text",defArgs zcO,defBody zcO,defScope zcO,[],[]⟩
def zfj:He.DefD:=⟨("_law_bent_text",none), "_law_bent_text", "_law_bent_text",defArgs zbq,defBody zbq,defScope zbq,[],[]⟩
def ziL:He.DefD:=⟨("_law_bent",none), "_law_bent", "_law_bent",defArgs zcP,defBody zcP,defScope zcP,[],[]⟩
def ziM:He.DefD:=⟨("_law_name",none), "_law_name", "_law_name",defArgs zcQ,defBody zcQ,defScope zcQ,[],[]⟩
def zj8:He.DefD:=⟨("_law_row",none), "_law_row", "_law_row",defArgs zdm,defBody zdm,defScope zdm,[],[]⟩
def zj9:He.DefD:=⟨("_law_due",none), "_law_due", "_law_due",defArgs zdn,defBody zdn,defScope zdn,[],[]⟩
def d_law:He.DefD:=⟨("law",none), "law", "law",defArgs zmU,defBody zmU,defScope zmU,[],[]⟩
def zka:He.DefD:=⟨("NoText",some "__init__"), "__init__", "NoText.__init__",defArgs zcZ,defBody zcZ,defScope zcZ,[],[]⟩
def zlE:He.DefD:=⟨("Twice",some "__init__"), "__init__", "Twice.__init__",defArgs zdF,defBody zdF,defScope zdF,[],[]⟩
def fns:List He.DefD:=[zlC,zlD,zgK,zj7,ziG,ziH,ziI,zhP,zgL,ziJ,zhQ,zhR,zhS,zhT,zhU,ziK,zfj,ziL,ziM,zj8,zj9,d_law,zka,zlE]
def fas:List He.Fa:=[.glo "is_name",.glo "is_spec",.glo "is_kind_row",.glo "is_stock",.glo "read_spec",.glo "show_kind",.glo "read_kind",.glo "read_stock",.glo "_law_digits",.glo "_law_take",.glo "_law_words",.glo "_law_stock",.glo "_law_order",.glo "_law_kinds",.glo "_law_asked",.glo "_law_text",.glo "_law_bent_text",.glo "_law_bent",.glo "_law_name",.glo "_law_row",.glo "_law_due",.glo "law",.free "len",.int "LONGEST" (8),.free "isinstance",.free "str",.str "LETTERS" "abcdefghijklmnopqrstuvwxyz",.free "tuple",.int "MOST_PORTS" (4),.free "all",.int "MOST_KINDS" (8),.free "enumerate",.free "sorted",.free "range",.free "list",.free "ValueError",.free "max",.free "bool"]
def nms0:List Str:=["LONGEST", "MOST_KINDS", "MOST_PORTS", "LETTERS", "is_name", "is_spec", "is_kind_row", "is_stock", "read_spec", "show_kind", "read_kind", "read_stock", "_law_digits", "_law_take", "_law_words", "_law_stock", "_law_order", "_law_kinds", "_law_asked", "_law_text", "_law_bent_text", "_law_bent", "_law_name", "_law_row", "_law_due", "WeaveError", "NoStock", "NoNet", "NoRule", "NoPlace"]
def nms1:List Str:=["Shared", "NoText", "NoRow", "NoRoad", "Twice"]
def nms:List Str:=nms0++nms1
abbrev Rw:PySem.W.OpenRow:=PySem.W.OpenLaw.row PySem.Challenge.rw_weave_k06_stocks_as_texts
abbrev qv:Program:=PySem.W.view Rw.prog [39]
abbrev hk:PySem.W.Hook:=hookY (xsFB nsX npX fsX xdX) 5 fas fns
def ob (s:PySem.W.SharedT):AlX:=zux (xsFB nsX npX fsX xdX) 5 fas fns (HandSHeadRun.getT s)
set_option maxHeartbeats 0 in
theorem run (w:World):HandSHeadRun.RunEq Rw qv hk ob 18800 nms w:=by
 intro os
 kernel_rfl
end LK06
end VW
namespace VW
open PySem L2
inductive D where
 | non | bl (b:Bool) | int (i:Int) | str (s:Str) | ty (n:String) | opq | scr (ns:List Int)
 | tup (ds:List D) | lst (ds:List D)
 | dK (kvs:List (Key×D)) | dT (kvs:List (List Key×D))
 | att (p:Addr) (u:HO)
 | adr (p:Addr)
 | atx (p q:Addr) (u:HO)
 deriving Inhabited
def ztE:V->Bool
 | .int _=>true
 | .str _=>true
 | _=>false
def ziN:List V->Bool
 | .int _::vs=>vs.all ztE
 | _=>false
def hdI:List Key->Bool
 | .inl _::_=>true
 | _=>false
inductive TupO (vs:List V):HO->Prop
 | key (k:ziN vs=true):TupO vs (.tup vs)
 | frz {o:Obj} (k:ziN vs=false) (c:o.cls=.type "tuple") (d:o.dict=none) {its:Array Value} {n:Nat} (e:o.data=.seq its n):TupO vs (.frz o (.tup vs))
def TupAt (G:Hp) (a:Addr) (vs:List V):Prop:=∃ o,G a=some o/\TupO vs o
def zrX:HO->Bool
 | .dK _=>true
 | .dT _=>true
 | _=>false
section
variable (K:PySem.W.Frag) (G:Hp)
mutual
inductive Rep:V->D->Prop
 | non:Rep .non .non
 | bl (b:Bool):Rep (.bl b) (.bl b)
 | int (i:Int):Rep (.int i) (.int i)
 | str (s:Str):Rep (.str s) (.str s)
 | ty (n:String):Rep (.ty n) (.ty n)
 | opq (v:V):Rep v .opq
 | tup {a:Addr} {vs:List V} {ds:List D} (h:TupAt G a vs) (r:Reps vs ds):Rep (.ref a) (.tup ds)
 | lst {a:Addr} {vs:List V} {ds:List D} (h:G a=some (.lst vs)) (r:Reps vs ds):Rep (.ref a) (.lst ds)
 | scr {a:Addr} {ns:List Int} (h:SqL K G a (ns.map V.int)):Rep (.ref a) (.scr ns)
 | dK {a:Addr} {kvs:List (Key×V)} {kds:List (Key×D)} (h:Rd G a (.dK kvs)) (r:RepK kvs kds):Rep (.ref a) (.dK kds)
 | dT {a:Addr} {kvs:List (List Key×V)} {kds:List (List Key×D)} (h:Rd G a (.dT kvs)) (r:RepT kvs kds):Rep (.ref a) (.dT kds)
 | att {p:Addr} {u:HO} (h:G p=some u) (n:zrX u=false):Rep (.ref p) (.att p u)
 | adr (p:Addr):Rep (.ref p) (.adr p)
 | atx {p q:Addr} {u:HO} (h:G q=some u) (n:zrX u=false):Rep (.ref p) (.atx p q u)
inductive Reps:List V->List D->Prop
 | nil:Reps [] []
 | cons {v:V} {d:D} {vs:List V} {ds:List D} (h:Rep v d) (r:Reps vs ds):Reps (v::vs) (d::ds)
inductive RepK:List (Key×V)->List (Key×D)->Prop
 | nil:RepK [] []
 | cons {k:Key} {v:V} {d:D} {vs:List (Key×V)} {ds:List (Key×D)} (h:Rep v d) (r:RepK vs ds):RepK ((k,v)::vs) ((k,d)::ds)
inductive RepT:List (List Key×V)->List (List Key×D)->Prop
 | nil:RepT [] []
 | cons {k:List Key} {v:V} {d:D} {vs:List (List Key×V)} {ds:List (List Key×D)} (h:Rep v d) (r:RepT vs ds):RepT ((k,v)::vs) ((k,d)::ds)
end
end
def Ex (H H':Hp):Prop:=∀ a o,H a=some o->H' a=some o\/zrX o=true/\∃ od,H' a=some (.frz od o)
theorem Ex.of {H H':Hp} (h:∀ a o,H a=some o->H' a=some o):Ex H H':=λa o e=>.inl (h a o e)
theorem Ex.keep {H H':Hp} (e:Ex H H') {a:Addr} {o:HO} (h:H a=some o) (n:zrX o=false:=by rfl):H' a=some o:=by
 rcases e a o h with h | ⟨z,_⟩
 ·exact h
 ·rw [n] at z
  cases z
theorem Ex.refl (H:Hp):Ex H H:=.of λ_ _ h=>h
theorem Ex.trans {H H1 H2:Hp} (a:Ex H H1) (b:Ex H1 H2):Ex H H2:=λx o h=>by
 rcases a x o h with h1 | ⟨z,od,h1⟩
 ·exact b x o h1
 ·exact .inr ⟨z,od,b.keep h1⟩
theorem Ex.rd {H H':Hp} {a:Addr} {u:HO} (e:Ex H H') (h:Rd H a u):Rd H' a u:=by
 rcases h with h | ⟨o,h⟩
 ·rcases e a _ h with h | ⟨_,od,h⟩
  ·exact Or.inl h
  ·exact Or.inr ⟨od,h⟩
 ·exact Or.inr ⟨o,e.keep h⟩
theorem Ex.sqL {K:PySem.W.Frag} {H H':Hp} {a:Addr} {xs:List V} (e:Ex H H') (h:SqL K H a xs):SqL K H' a xs:=by
 rcases h with h | h
 ·exact Or.inl (e.rd h)
 ·exact Or.inr h
theorem TupO.rd {H:Hp} {a:Addr} {vs:List V} {o:HO} (t:TupO vs o) (h:H a=some o):Rd H a (.tup vs):=by
 cases t with
 | key k=>exact .inl h
 | frz k c d e=>exact .inr ⟨_,h⟩
theorem TupAt.rd {H:Hp} {a:Addr} {vs:List V} (t:TupAt H a vs):Rd H a (.tup vs):=by
 obtain ⟨o,h,t⟩:=t
 exact t.rd h
theorem TupAt.sqT {K:PySem.W.Frag} {H:Hp} {a:Addr} {vs:List V} (t:TupAt H a vs):SqT K H a vs:=.inl t.rd
theorem TupAt.mono {G H:Hp} {a:Addr} {vs:List V} (t:TupAt G a vs) (e:Ex G H):TupAt H a vs:=by
 obtain ⟨o,h,t⟩:=t
 refine ⟨o,e.keep h ?_,t⟩
 cases t<;>rfl
theorem TupAt.key {H:Hp} {a:Addr} {vs:List V} (t:TupAt H a vs) (k:ziN vs=true):H a=some (.tup vs):=by
 obtain ⟨o,h,t⟩:=t
 cases t with
 | key _=>exact h
 | frz k'=>rw [k] at k'; cases k'
theorem TupO.any (vs:List V):∀ {o:Obj} {its:Array Value} {n:Nat},o.cls=.type "tuple" -> o.dict=none->o.data=.seq its n->TupO vs (if ziN vs=true then .tup vs else .frz o (.tup vs)):=λ{o its n} c d e=>by
 by_cases k:ziN vs=true
 ·rw [yaM k]
  exact .key k
 ·rw [yaH k]
  exact .frz (by simpa using k) c d e
theorem zgM {X:Cx} {pins:List (Addr×Obj)} {σ:L2.St} {H:Hp} {s:Shared} {xs:List V} {its:List Value} (I:Inv X pins σ H s) (z:xs.length<=sizeLine) (r:Vals xs its) :
 ∃ o,TupO xs o/\Inv X pins σ (upd H s.heap.objs.size o) { s with heap:=s.heap.push { cls:=.type "tuple",data:=.seq its.toArray } }:=by
 refine ⟨_,TupO.any xs (o:={ cls:=.type "tuple",data:=.seq its.toArray }) rfl rfl rfl,I.laid (t':=s.toks) (λb u e=>Heap.get?_push_of_some _ e) (yaw _) ?_⟩
 by_cases k:ziN xs=true
 ·rw [yaM k]
  exact ⟨z,its,r,PyProof.Rows.IsTup.new _ _⟩
 ·rw [yaH k]
  exact ⟨Heap.get?_push_size _ rfl,z,its,r,PyProof.Rows.IsTup.new _ _⟩
section
variable {K:PySem.W.Frag} {G G':Hp}
mutual
theorem Rep.mono (e:Ex G G'):∀ {v:V} {d:D},Rep K G v d->Rep K G' v d
 | _,_,.non=>.non
 | _,_,.bl b=>.bl b
 | _,_,.int i=>.int i
 | _,_,.str s=>.str s
 | _,_,.ty n=>.ty n
 | _,_,.opq v=>.opq v
 | _,_,.tup h r=>.tup (h.mono e) (Reps.mono e r)
 | _,_,.lst h r=>.lst (e.keep h) (Reps.mono e r)
 | _,_,.scr h=>.scr (e.sqL h)
 | _,_,.dK h r=>.dK (e.rd h) (RepK.mono e r)
 | _,_,.dT h r=>.dT (e.rd h) (RepT.mono e r)
 | _,_,.att h n=>.att (e.keep h n) n
 | _,_,.adr p=>.adr p
 | _,_,.atx h n=>.atx (e.keep h n) n
theorem Reps.mono (e:Ex G G'):∀ {vs:List V} {ds:List D},Reps K G vs ds->Reps K G' vs ds
 | _,_,.nil=>.nil
 | _,_,.cons h r=>.cons (Rep.mono e h) (Reps.mono e r)
theorem RepK.mono (e:Ex G G'):∀ {vs:List (Key×V)} {ds:List (Key×D)},RepK K G vs ds->RepK K G' vs ds
 | _,_,.nil=>.nil
 | _,_,.cons h r=>.cons (Rep.mono e h) (RepK.mono e r)
theorem RepT.mono (e:Ex G G'):∀ {vs:List (List Key×V)} {ds:List (List Key×D)},RepT K G vs ds->RepT K G' vs ds
 | _,_,.nil=>.nil
 | _,_,.cons h r=>.cons (Rep.mono e h) (RepT.mono e r)
end
theorem Reps.length:∀ {vs:List V} {ds:List D},Reps K G vs ds->vs.length=ds.length
 | _,_,.nil=>rfl
 | _,_,.cons _ r=>yaX (· + 1) (Reps.length r)
theorem RepK.length:∀ {vs:List (Key×V)} {ds:List (Key×D)},RepK K G vs ds->vs.length=ds.length
 | _,_,.nil=>rfl
 | _,_,.cons _ r=>yaX (· + 1) (RepK.length r)
theorem RepT.length:∀ {vs:List (List Key×V)} {ds:List (List Key×D)},RepT K G vs ds->vs.length=ds.length
 | _,_,.nil=>rfl
 | _,_,.cons _ r=>yaX (· + 1) (RepT.length r)
theorem Reps.at:∀ {vs:List V} {ds:List D} {i:Nat} {d:D},Reps K G vs ds->ds[i]?=some d->∃ v,vs[i]?=some v/\Rep K G v d
 | _,_,_,_,.nil,h=>by simp at h
 | _,_,0,_,.cons h r,e=>by
   simp at e
   subst e
   exact ⟨_,rfl,h⟩
 | _,_,i+1,_,.cons _ r,e=>by
   obtain ⟨v,e1,h1⟩:=Reps.at (i:=i) r (by simpa using e)
   exact ⟨v,by simpa using e1,h1⟩
theorem Reps.append:∀ {vs us:List V} {ds es:List D},Reps K G vs ds->Reps K G us es->Reps K G (vs++us) (ds++es)
 | _,_,_,_,.nil,s=>s
 | _,_,_,_,.cons h r,s=>.cons h (Reps.append r s)
theorem Reps.take:∀ {vs:List V} {ds:List D} (n:Nat),Reps K G vs ds->Reps K G (vs.take n) (ds.take n)
 | _,_,0,_=>.nil
 | _,_,_+1,.nil=>.nil
 | _,_,n+1,.cons h r=>.cons h (Reps.take n r)
theorem Reps.drop:∀ {vs:List V} {ds:List D} (n:Nat),Reps K G vs ds->Reps K G (vs.drop n) (ds.drop n)
 | _,_,0,r=>r
 | _,_,_+1,.nil=>.nil
 | _,_,n+1,.cons _ r=>Reps.drop n r
theorem Reps.set {v:V} {d:D} (h:Rep K G v d):∀ {vs:List V} {ds:List D} (n:Nat),Reps K G vs ds->Reps K G (vs.set n v) (ds.set n d)
 | _,_,_,.nil=>.nil
 | _,_,0,.cons _ r=>.cons h r
 | _,_,n+1,.cons q r=>.cons q (Reps.set h n r)
theorem Reps.one {v:V} {d:D} (h:Rep K G v d):Reps K G [v] [d]:=.cons h .nil
theorem Reps.ofInts:∀ (ns:List Int),Reps K G (ns.map V.int) (ns.map D.int)
 | []=>.nil
 | n::ns=>.cons (.int n) (Reps.ofInts ns)
theorem Reps.strs:∀ {vs:List V} {ns:List Str},Reps K G vs (ns.map D.str)->vs=ns.map V.str
 | _,[],.nil=>rfl
 | _,n::ns,.cons (.str _) r=>yaX (V.str n :: ·) (Reps.strs r)
theorem Reps.ofStrs:∀ (ns:List Str),Reps K G (ns.map V.str) (ns.map D.str)
 | []=>.nil
 | n::ns=>.cons (.str n) (Reps.ofStrs ns)
theorem Reps.bls:∀ {vs:List V} {ns:List Bool},Reps K G vs (ns.map D.bl)->vs=ns.map V.bl
 | _,[],.nil=>rfl
 | _,n::ns,.cons (.bl _) r=>yaX (V.bl n :: ·) (Reps.bls r)
end
inductive FM where
 | fz (d:D) | lst (ds:List D) | dK (kvs:List (Key×D)) | dT (kvs:List (List Key×D))
inductive Sh where
 | tup | dL (ks:List Key)
inductive ShO:Sh->List V->HO->Prop
 | tup {vs:List V} {o:Obj} {its:Array Value} {n:Nat} (c:o.cls=.type "tuple") (d:o.dict=none) (e:o.data=.seq its n):ShO .tup vs (.frz o (.tup vs))
 | dL {ks:List Key} {vs:List V} (l:ks.length=vs.length):ShO (.dL ks) vs (.dK (ks.zip vs))
inductive ziO where
 | fz (d:D) | lst (ts:List ziO) | tup (ts:List ziO)
inductive M where
 | fz (d:D) | lst (ds:List D) | dK (kvs:List (Key×D)) | dT (kvs:List (List Key×D))
 | lk (a:Addr) (o:Obj) (kvs:List (List Key×V)) (kds:List (List Key×D))
 | dA (a:Addr) (kvs:List (Key×D))
 | ob (C dx:Addr) (fs:List (Str×V×FM))
 | bx (s:Sh) (ms:List FM)
 | dq (t:ziO)
def M.d:M->D
 | .fz d=>d
 | .lst ds=>.lst ds
 | .dK kvs=>.dK kvs
 | .dT kvs=>.dT kvs
 | .lk _ _ _ _=>.opq
 | .dA _ kvs=>.dK kvs
 | .ob _ _ _=>.opq
 | .bx _ _=>.opq
 | .dq _=>.opq
def FM.m:FM->M
 | .fz d=>.fz d
 | .lst ds=>.lst ds
 | .dK kvs=>.dK kvs
 | .dT kvs=>.dT kvs
def hid (H:Hp) (F:List Addr):Hp:=λa=>if a∈F then none else H a
theorem znR {H:Hp} {F:List Addr}:Ex (hid H F) H:=.of λa o h=>by
 unfold hid at h
 split at h
 ·cases h
 ·exact h
theorem zep {H:Hp} {F:List Addr} {a:Addr} (h:a∉F):hid H F a=H a:=yaH h
theorem zgN {H:Hp} {F:List Addr} {a:Addr} (h:a∈F):hid H F a=none:=yaM h
theorem zlF {H:Hp} {F F':List Addr} (h:∀ a,a∈F↔a∈F'):hid H F=hid H F':=by
 funext a
 unfold hid
 by_cases e:a∈F
 ·rw [yaM e,yaM ((h a).mp e)]
 ·rw [yaH e,yaH λz=>e ((h a).mpr z)]
theorem znS {H:Hp} {F F':List Addr} (h:∀ a,a∈F'->a∈F):Ex (hid H F) (hid H F'):=.of λa o e=>by
 by_cases z:a∈F
 ·rw [zgN z] at e
  cases e
 ·rw [zep z] at e
  rw [zep λy=>z (h a y)]
  exact e
section
variable (K:PySem.W.Frag) (G H:Hp)
inductive Own0:V->FM->List Addr->Prop
 | fz {v:V} {d:D} (h:Rep K G v d):Own0 v (.fz d) []
 | lst {p:Addr} {vs:List V} {ds:List D} (h:H p=some (.lst vs)) (r:Reps K G vs ds):Own0 (.ref p) (.lst ds) [p]
 | dK {p:Addr} {kvs:List (Key×V)} {kds:List (Key×D)} (h:H p=some (.dK kvs)) (r:RepK K G kvs kds):Own0 (.ref p) (.dK kds) [p]
 | dT {p:Addr} {kvs:List (List Key×V)} {kds:List (List Key×D)} (h:H p=some (.dT kvs)) (r:RepT K G kvs kds):Own0 (.ref p) (.dT kds) [p]
inductive HeldsF:List (Str×V×FM)->List Addr->Prop
 | nil:HeldsF [] []
 | cons {f:Str} {v:V} {m:FM} {L:List (Str×V×FM)} {F1 F2:List Addr} (h:Own0 K G H v m F1) (r:HeldsF L F2):HeldsF ((f,v,m)::L) (F1++F2)
inductive OwnT:List V->List ziO->List Addr->Prop
 | nil:OwnT [] [] []
 | fz {v:V} {d:D} {vs:List V} {ts:List ziO} {F:List Addr} (h:Rep K G v d) (r:OwnT vs ts F):OwnT (v::vs) (.fz d::ts) F
 | lst {p:Addr} {ws vs:List V} {us ts:List ziO} {F1 F2:List Addr} (h:H p=some (.lst ws)) (i:OwnT ws us F1) (r:OwnT vs ts F2):OwnT (.ref p::vs) (.lst us::ts) (p::(F1++F2))
 | tup {p:Addr} {o:Obj} {its:Array Value} {n:Nat} {ws vs:List V} {us ts:List ziO} {F1 F2:List Addr} (h:H p=some (.frz o (.tup ws))) (k:ziN ws=false) (c:o.cls=.type "tuple") (dn:o.dict=none) (e:o.data=.seq its n) (i:OwnT ws us F1) (r:OwnT vs ts F2):OwnT (.ref p::vs) (.tup us::ts) (p::(F1++F2))
inductive Own:V->M->List Addr->Prop
 | fz {v:V} {d:D} (h:Rep K G v d):Own v (.fz d) []
 | lst {p:Addr} {vs:List V} {ds:List D} (h:H p=some (.lst vs)) (r:Reps K G vs ds):Own (.ref p) (.lst ds) [p]
 | dK {p:Addr} {kvs:List (Key×V)} {kds:List (Key×D)} (h:H p=some (.dK kvs)) (r:RepK K G kvs kds):Own (.ref p) (.dK kds) [p]
 | dT {p:Addr} {kvs:List (List Key×V)} {kds:List (List Key×D)} (h:H p=some (.dT kvs)) (r:RepT K G kvs kds):Own (.ref p) (.dT kds) [p]
 | lk {p:Addr} {o:Obj} {kvs:List (List Key×V)} {kds:List (List Key×D)} (h:H p=some (.frz o (.dT kvs))) (r:RepT K G kvs kds):Own (.ref p) (.lk p o kvs kds) [p]
 | dA {p:Addr} {kvs:List (Key×V)} {kds:List (Key×D)} (h:H p=some (.dK kvs)) (r:RepK K G kvs kds):Own (.ref p) (.dA p kds) [p]
 | ob {p C dx:Addr} {fs:List (Str×V×FM)} {F:List Addr} (h:H p=some (.ins C dx (fs.map λx=>(x.1,x.2.1)))) (r:HeldsF K G H fs F):Own (.ref p) (.ob C dx fs) (p::F)
 | bx {p:Addr} {s:Sh} {ms:List FM} {fs:List (Str×V×FM)} {u:HO} {F:List Addr} (e:fs.map (λx=>x.2.2)=ms) (h:H p=some u) (k:ShO s (fs.map λx=>x.2.1) u) (r:HeldsF K G H fs F):Own (.ref p) (.bx s ms) (p::F)
 | dq {v:V} {t:ziO} {F:List Addr} (h:OwnT K G H [v] [t] F):Own v (.dq t) F
inductive Helds:List (V×M)->List Addr->Prop
 | nil:Helds [] []
 | cons {v:V} {m:M} {L:List (V×M)} {F1 F2:List Addr} (h:Own K G H v m F1) (r:Helds L F2):Helds ((v,m)::L) (F1++F2)
end
section
variable {K:PySem.W.Frag} {G G' H H':Hp}
theorem OwnT.mono {vs:List V} {ts:List ziO} {F:List Addr} (h:OwnT K G H vs ts F) (e:Ex G G'):(∀ a∈F,H' a=H a)->OwnT K G' H' vs ts F:=by
 induction h with
 | nil=>exact λ_=>.nil
 | fz h r ih=>exact λk=>.fz (h.mono e) (ih k)
 | lst h i r ih1 ih2=>exact λk=>.lst (by rw [k _ (by simp)]; exact h) (ih1 λa z=>k a (by simp [z])) (ih2 λa z=>k a (by simp [z]))
 | tup h kk c dn e' i r ih1 ih2=>exact λk=>.tup (by rw [k _ (by simp)]; exact h) kk c dn e' (ih1 λa z=>k a (by simp [z])) (ih2 λa z=>k a (by simp [z]))
theorem OwnT.there {vs:List V} {ts:List ziO} {F:List Addr} (h:OwnT K G H vs ts F):∀ a∈F,∃ o,H a=some o:=by
 induction h with
 | nil=>exact λ_ z=>nomatch z
 | fz h r ih=>exact ih
 | lst h i r ih1 ih2 =>
   intro a z
   rcases yao.mp z with rfl | z
   ·exact ⟨_,h⟩
   ·exact (yas.mp z).elim (ih1 a) (ih2 a)
 | tup h kk c dn e' i r ih1 ih2 =>
   intro a z
   rcases yao.mp z with rfl | z
   ·exact ⟨_,h⟩
   ·exact (yas.mp z).elim (ih1 a) (ih2 a)
theorem OwnT.what {vs:List V} {ts:List ziO} {F:List Addr} (h:OwnT K G H vs ts F):∀ a∈F,(∃ ws,H a=some (.lst ws))\/∃ o ws,H a=some (.frz o (.tup ws)):=by
 induction h with
 | nil=>exact λ_ z=>nomatch z
 | fz h r ih=>exact ih
 | lst h i r ih1 ih2 =>
   intro a z
   rcases yao.mp z with rfl | z
   ·exact .inl ⟨_,h⟩
   ·exact (yas.mp z).elim (ih1 a) (ih2 a)
 | tup h kk c dn e' i r ih1 ih2 =>
   intro a z
   rcases yao.mp z with rfl | z
   ·exact .inr ⟨_,_,h⟩
   ·exact (yas.mp z).elim (ih1 a) (ih2 a)
theorem Own0.mono {v:V} {m:FM} {F:List Addr} (h:Own0 K G H v m F) (e:Ex G G') (k:∀ a∈F,H' a=H a):Own0 K G' H' v m F:=by
 cases h with
 | fz h=>exact .fz (h.mono e)
 | lst h r=>exact .lst (by rw [k _ (by simp)]; exact h) (r.mono e)
 | dK h r=>exact .dK (by rw [k _ (by simp)]; exact h) (r.mono e)
 | dT h r=>exact .dT (by rw [k _ (by simp)]; exact h) (r.mono e)
theorem Own0.there {v:V} {m:FM} {F:List Addr} (h:Own0 K G H v m F):∀ a∈F,∃ o,H a=some o:=by
 cases h with
 | fz h=>exact λ_ z=>nomatch z
 | lst h r=>exact λa z=>by simp at z; exact ⟨_,z▸h⟩
 | dK h r=>exact λa z=>by simp at z; exact ⟨_,z▸h⟩
 | dT h r=>exact λa z=>by simp at z; exact ⟨_,z▸h⟩
theorem Own0.own {v:V} {m:FM} {F:List Addr} (h:Own0 K G H v m F):Own K G H v m.m F:=by
 cases h with
 | fz h=>exact .fz h
 | lst h r=>exact .lst h r
 | dK h r=>exact .dK h r
 | dT h r=>exact .dT h r
theorem HeldsF.mono {L:List (Str×V×FM)} {F:List Addr} (h:HeldsF K G H L F) (e:Ex G G'):(∀ a∈F,H' a=H a)->HeldsF K G' H' L F:=by
 induction h with
 | nil=>exact λ_=>.nil
 | cons h r ih=>exact λk=>.cons (h.mono e λa z=>k a (yan _ z)) (ih λa z=>k a (yag _ z))
theorem HeldsF.there {L:List (Str×V×FM)} {F:List Addr} (h:HeldsF K G H L F):∀ a∈F,∃ o,H a=some o:=by
 induction h with
 | nil=>exact λ_ z=>nomatch z
 | cons h r ih=>exact λa z=>(yas.mp z).elim (h.there a) (ih a)
theorem HeldsF.mem {L:List (Str×V×FM)} {F:List Addr} (h:HeldsF K G H L F):∀ x∈L,∃ F1,Own0 K G H x.2.1 x.2.2 F1:=by
 induction h with
 | nil=>exact λ_ z=>nomatch z
 | cons h r ih =>
   intro x z
   rcases yao.mp z with e | z
   ·subst e
    exact ⟨_,h⟩
   ·exact ih x z
theorem Own.mono {v:V} {m:M} {F:List Addr} (h:Own K G H v m F) (e:Ex G G') (k:∀ a∈F,H' a=H a):Own K G' H' v m F:=by
 cases h with
 | fz h=>exact .fz (h.mono e)
 | lst h r=>exact .lst (by rw [k _ (by simp)]; exact h) (r.mono e)
 | dK h r=>exact .dK (by rw [k _ (by simp)]; exact h) (r.mono e)
 | dT h r=>exact .dT (by rw [k _ (by simp)]; exact h) (r.mono e)
 | lk h r=>exact .lk (by rw [k _ (by simp)]; exact h) (r.mono e)
 | dA h r=>exact .dA (by rw [k _ (by simp)]; exact h) (r.mono e)
 | ob h r=>exact .ob (by rw [k _ (by simp)]; exact h) (r.mono e λa z=>k a (yab _ z))
 | bx e0 h k0 r=>exact .bx e0 (by rw [k _ (by simp)]; exact h) k0 (r.mono e λa z=>k a (yab _ z))
 | dq h=>exact .dq (h.mono e k)
theorem Own.there {v:V} {m:M} {F:List Addr} (h:Own K G H v m F):∀ a∈F,∃ o,H a=some o:=by
 cases h with
 | fz h=>exact λ_ z=>nomatch z
 | lst h r=>exact λa z=>by simp at z; exact ⟨_,z▸h⟩
 | dK h r=>exact λa z=>by simp at z; exact ⟨_,z▸h⟩
 | dT h r=>exact λa z=>by simp at z; exact ⟨_,z▸h⟩
 | lk h r=>exact λa z=>by simp at z; exact ⟨_,z▸h⟩
 | dA h r=>exact λa z=>by simp at z; exact ⟨_,z▸h⟩
 | ob h r=>exact λa z=>(yao.mp z).elim (λz=>⟨_,z▸h⟩) (r.there a)
 | bx _ h _ r=>exact λa z=>(yao.mp z).elim (λz=>⟨_,z▸h⟩) (r.there a)
 | dq h=>exact h.there
theorem Helds.mono {L:List (V×M)} {F:List Addr} (h:Helds K G H L F) (e:Ex G G'):(∀ a∈F,H' a=H a)->Helds K G' H' L F:=by
 induction h with
 | nil=>exact λ_=>.nil
 | cons h r ih=>exact λk=>.cons (h.mono e λa z=>k a (yan _ z)) (ih λa z=>k a (yag _ z))
theorem Helds.there {L:List (V×M)} {F:List Addr} (h:Helds K G H L F):∀ a∈F,∃ o,H a=some o:=by
 induction h with
 | nil=>exact λ_ z=>nomatch z
 | cons h r ih=>exact λa z=>(yas.mp z).elim (h.there a) (ih a)
theorem Helds.perm {L L':List (V×M)} (p:L.Perm L'):∀ {F:List Addr},Helds K G H L F->∃ F',F.Perm F'/\Helds K G H L' F':=by
 induction p with
 | nil=>exact λh=>⟨_,.refl _,h⟩
 | cons x p ih =>
   intro F h
   cases h with
   | cons h r =>
     obtain ⟨F',q,r'⟩:=ih r
     exact ⟨_,q.append_left _,.cons h r'⟩
 | swap x y l =>
   intro F h
   cases h with
   | cons h r =>
     cases r with
     | cons h' r =>
       refine ⟨_,?_,.cons h' (.cons h r)⟩
       rw [← yah,← yah]
       exact yaz.append_right _
 | trans _ _ ih1 ih2 =>
   intro F h
   obtain ⟨F1,q1,h1⟩:=ih1 h
   obtain ⟨F2,q2,h2⟩:=ih2 h1
   exact ⟨F2,q1.trans q2,h2⟩
theorem Helds.append {L L':List (V×M)} {F F':List Addr} (h:Helds K G H L F) (h':Helds K G H L' F'):Helds K G H (L++L') (F++F'):=by
 induction h with
 | nil=>exact h'
 | cons h r ih =>
   rw [yah]
   exact .cons h ih
theorem Helds.split {L L':List (V×M)}:∀ {F:List Addr},Helds K G H (L++L') F->∃ F1 F2,F=F1++F2/\Helds K G H L F1/\Helds K G H L' F2:=by
 induction L with
 | nil=>exact λh=>⟨[],_,rfl,.nil,h⟩
 | cons x L ih =>
   intro F h
   cases h with
   | cons h r =>
     obtain ⟨F1,F2,e,h1,h2⟩:=ih r
     subst e
     exact ⟨_,_,(yah _ _ _).symm,.cons h h1,h2⟩
end
def Sep (K:PySem.W.Frag) (H:Hp) (L:List (V×M)):Prop:=∃ F:List Addr,F.Nodup/\Helds K (hid H F) H L F
section
variable {K:PySem.W.Frag} {H:Hp} {L L':List (V×M)}
theorem Sep.perm (h:Sep K H L) (p:L.Perm L'):Sep K H L':=by
 obtain ⟨F,nd,q⟩:=h
 obtain ⟨F',e,q'⟩:=q.perm p
 refine ⟨F',e.nodup nd,?_⟩
 rw [← zlF λa=>e.mem_iff]
 exact q'
theorem Sep.left (h:Sep K H (L++L')):Sep K H L:=by
 obtain ⟨F,nd,q⟩:=h
 obtain ⟨F1,F2,e,q1,_⟩:=q.split
 subst e
 exact ⟨F1,(ybc.mp nd).1,q1.mono (znS λa z=>yan _ z) λ_ _=>rfl⟩
theorem Sep.right (h:Sep K H (L++L')):Sep K H L':=(h.perm yaz).left
theorem Sep.tail {x:V×M} (h:Sep K H (x::L)):Sep K H L:=Sep.right (L:=[x]) h
theorem Sep.of_perm (h:Sep K H L) {L2 R:List (V×M)} (p:L.Perm (L2++R)):Sep K H L2:=(h.perm p).left
end
theorem Helds.mem {K:PySem.W.Frag} {G H:Hp} {L:List (V×M)} {F:List Addr} (h:Helds K G H L F):∀ p∈L,∃ F1,Own K G H p.1 p.2 F1/\∀ a∈F1,a∈F:=by
 induction h with
 | nil=>exact λ_ z=>nomatch z
 | cons h r ih =>
   intro p z
   rcases yao.mp z with e | z
   ·subst e
    exact ⟨_,h,λa y=>yan _ y⟩
   ·obtain ⟨F1,h1,h2⟩:=ih p z
    exact ⟨F1,h1,λa y=>yag _ (h2 a y)⟩
inductive zhj (K:PySem.W.Frag) (G H:Hp):M->V->Hp->Prop
 | same {v:V} {d:D} (h:Rep K G v d):zhj K G H (.fz d) v H
 | tup {p:Addr} {vs:List V} {ds:List D} {o:HO} (n:H p=none) (t:TupO vs o) (r:Reps K G vs ds):zhj K G H (.fz (.tup ds)) (.ref p) (upd H p o)
 | lst {p:Addr} {vs:List V} {ds:List D} (n:H p=none) (r:Reps K G vs ds):zhj K G H (.lst ds) (.ref p) (upd H p (.lst vs))
 | dK {p:Addr} {kvs:List (Key×V)} {kds:List (Key×D)} (n:H p=none) (r:RepK K G kvs kds):zhj K G H (.dK kds) (.ref p) (upd H p (.dK kvs))
 | dT {p:Addr} {kvs:List (List Key×V)} {kds:List (List Key×D)} (n:H p=none) (r:RepT K G kvs kds):zhj K G H (.dT kds) (.ref p) (upd H p (.dT kvs))
theorem Helds.fresh {K:PySem.W.Frag} {G G' H:Hp} {L:List (V×M)} {F:List Addr} {p:Addr} {o:HO} (h:Helds K G H L F) (n:H p=none) (e:Ex G G'):Helds K G' (upd H p o) L F :=
 h.mono e λa z=>by
  obtain ⟨u,hu⟩:=h.there a z
  rw [upd_ne (ne_of_none hu n)]
theorem zkE {K:PySem.W.Frag} {G H:Hp} {L:List (V×M)} {F:List Addr} {p:Addr} (h:Helds K G H L F) (n:H p=none):p∉F:=λz=>by
 obtain ⟨u,hu⟩:=h.there p z
 rw [n] at hu
 cases hu
def zpG:M->List (V×M)
 | .ob _ _ fs=>fs.map λx=>(x.2.1,x.2.2.m)
 | _=>[]
def exL (L:List (V×M)):List (V×M):=L++L.flatMap λp=>zpG p.2
theorem ziP {L:List (V×M)} {p:V×M} (h:p∈L):p∈exL L:=yan _ h
theorem zuz {L:List (V×M)} {v:V} {C dx:Addr} {fs:List (Str×V×FM)} (h:(v,M.ob C dx fs)∈L) {x:Str×V×FM} (hx:x∈fs):(x.2.1,x.2.2.m)∈exL L :=
 yag _ (yaV.mpr ⟨_,h,yal.mpr ⟨x,hx,rfl⟩⟩)
theorem zmV {L L':List (V×M)} (h:∀ p∈L,p∈L') {p:V×M} (z:p∈exL L):p∈exL L':=by
 rcases yas.mp z with z | z
 ·exact ziP (h p z)
 ·obtain ⟨q,hq,z⟩:=yaV.mp z
  exact yag _ (yaV.mpr ⟨q,h q hq,z⟩)
theorem znT {L:List (V×M)} {x p:V×M} (z:p∈exL (x::L)):p=x\/p∈zpG x.2\/p∈exL L:=by
 rcases yas.mp z with z | z
 ·exact (yao.mp z).imp id λz=>.inr (ziP z)
 ·obtain ⟨q,hq,hz⟩:=yaV.mp z
  rcases yao.mp hq with e | hq
  ·exact .inr (.inl (e▸hz))
  ·exact .inr (.inr (yag _ (yaV.mpr ⟨q,hq,hz⟩)))
theorem znU {L L':List (V×M)} (h:L.Perm L') {p:V×M} (z:p∈exL L):p∈exL L':=zmV (λ_ y=>h.mem_iff.mp y) z
theorem Helds.memX {K:PySem.W.Frag} {G H:Hp} {L:List (V×M)} {F:List Addr} (q:Helds K G H L F):∀ p∈exL L,∃ F1,Own K G H p.1 p.2 F1:=λp z=>by
 rcases yas.mp z with z | z
 ·obtain ⟨F1,h1,_⟩:=q.mem p z
  exact ⟨F1,h1⟩
 ·obtain ⟨⟨v,m⟩,hq,z⟩:=yaV.mp z
  obtain ⟨F1,h1,_⟩:=q.mem _ hq
  cases h1 with
  | ob h r =>
    obtain ⟨x,hx,rfl⟩:=yal.mp z
    obtain ⟨F2,h2⟩:=r.mem x hx
    exact ⟨F2,h2.own⟩
  | fz _=>exact nomatch z
  | lst _ _=>exact nomatch z
  | dK _ _=>exact nomatch z
  | dT _ _=>exact nomatch z
  | lk _ _=>exact nomatch z
  | dA _ _=>exact nomatch z
  | bx _ _ _ _=>exact nomatch z
  | dq _=>exact nomatch z
structure Opn (K:PySem.W.Frag) (H:Hp) (L:List (V×M)) (G:Hp):Prop where
 ex:Ex G H
 own:∀ p∈L,∃ F,Own K G H p.1 p.2 F
 ownX:∀ p∈exL L,∃ F,Own K G H p.1 p.2 F
 res:∀ m v H',zhj K G H m v H'->Sep K H' ((v,m)::L)
theorem Sep.opnF {K:PySem.W.Frag} {H:Hp} {L:List (V×M)} {F:List Addr} (nd:F.Nodup) (q:Helds K (hid H F) H L F):Opn K H L (hid H F):=by
 have own:∀ p∈L,∃ F1,Own K (hid H F) H p.1 p.2 F1:=λp z=>by
  obtain ⟨F1,h1,_⟩:=q.mem p z
  exact ⟨F1,h1⟩
 refine ⟨znR,own,q.memX,λm v H' r => ?_⟩
 ·have up:∀ {p:Addr} {o:HO},H p=none->Ex (hid H F) (hid (upd H p o) F):=λ{p o} n=>.of λa u e=>by
   by_cases z:a∈F
   ·rw [zgN z] at e
    cases e
   ·rw [zep z] at e ⊢
    rw [upd_ne (ne_of_none e n)]
    exact e
  have up2:∀ {p:Addr} {o:HO},H p=none->Ex (hid H F) (hid (upd H p o) ([p]++F)):=λ{p o} n=>.of λa u e=>by
   by_cases z:a∈F
   ·rw [zgN z] at e
    cases e
   ·rw [zep z] at e
    have ap:a≠p:=ne_of_none e n
    rw [zep (by simp [ap,z]),upd_ne ap]
    exact e
  cases r with
  | same h=>exact ⟨[]++F,nd,.cons (.fz h) q⟩
  | tup n t r =>
    rename_i p vs ds o
    have pF:=zkE q n
    refine ⟨[]++F,nd,.cons (.fz (.tup ⟨o,?_,t⟩ (r.mono (up n)))) (q.fresh n (up n))⟩
    show hid _ F p=_
    rw [zep pF]
    exact upd_same
  | lst n r =>
    rename_i p vs ds
    have pF:=zkE q n
    exact ⟨[p]++F,ya8.mpr ⟨pF,nd⟩,.cons (.lst upd_same (r.mono (up2 n))) (q.fresh n (up2 n))⟩
  | dK n r =>
    rename_i p vs ds
    have pF:=zkE q n
    exact ⟨[p]++F,ya8.mpr ⟨pF,nd⟩,.cons (.dK upd_same (r.mono (up2 n))) (q.fresh n (up2 n))⟩
  | dT n r =>
    rename_i p vs ds
    have pF:=zkE q n
    exact ⟨[p]++F,ya8.mpr ⟨pF,nd⟩,.cons (.dT upd_same (r.mono (up2 n))) (q.fresh n (up2 n))⟩
theorem Sep.opn {K:PySem.W.Frag} {H:Hp} {L:List (V×M)} (h:Sep K H L):∃ G,Opn K H L G:=h.elim λ_ q=>⟨_,Sep.opnF q.1 q.2⟩
theorem Own.rep {K:PySem.W.Frag} {G H G':Hp} {v:V} {m:M} {F:List Addr} (h:Own K G H v m F) (e:Ex G G') (k:∀ a∈F,∀ o,H a=some o->G' a=some o):Rep K G' v m.d:=by
 cases h with
 | fz h=>exact h.mono e
 | lst h r=>exact .lst (k _ (by simp) _ h) (r.mono e)
 | dK h r=>exact .dK (.inl (k _ (by simp) _ h)) (r.mono e)
 | dT h r=>exact .dT (.inl (k _ (by simp) _ h)) (r.mono e)
 | lk h r=>exact .opq _
 | dA h r=>exact .dK (.inl (k _ (by simp) _ h)) (r.mono e)
 | ob h r=>exact .opq _
 | bx _ _ _ _=>exact .opq _
 | dq _=>exact .opq _
def M.isP:M->Bool
 | .fz _=>false
 | .ob _ _ _=>false
 | .bx _ _=>false
 | .dq _=>false
 | _=>true
theorem Sep.freeze {K:PySem.W.Frag} {H:Hp} {L:List (V×M)} {v:V} {m:M} (h:Sep K H ((v,m)::L)):Sep K H ((v,.fz m.d)::L):=by
 obtain ⟨F,nd,q⟩:=h
 cases q with
 | cons h r =>
   rename_i F1 F2
   obtain ⟨n1,n2,n3⟩:=ybc.mp nd
   have e:Ex (hid H (F1++F2)) (hid H F2):=znS λa z=>yag _ z
   refine ⟨[]++F2,n2,.cons (.fz (h.rep e λa z o y => ?_)) (r.mono e λ_ _=>rfl)⟩
   show hid H F2 a=_
   rw [zep λw=>n3 a z a w rfl]
   exact y
theorem Sep.mut {K:PySem.W.Frag} {H:Hp} {L:List (V×M)} {v:V} {m:M} (h:Sep K H ((v,m)::L)) (hm:m.isP=true):∃ G p F,v=.ref p/\Own K G H v m F/\Ex G H/\(∀ q∈L,∃ F,Own K G H q.1 q.2 F) /\
 (∀ vs ds,Reps K G vs ds->Sep K (upd H p (.lst vs)) ((v,.lst ds)::L))/\(∀ vs ds,RepK K G vs ds->Sep K (upd H p (.dK vs)) ((v,.dK ds)::L))/\(∀ vs ds,RepT K G vs ds->Sep K (upd H p (.dT vs)) ((v,.dT ds)::L)):=by
 obtain ⟨F,nd,q⟩:=h
 cases q with
 | cons h r =>
   rename_i F1 F2
   obtain ⟨p,rfl,rfl⟩:∃ p,v=.ref p/\F1=[p]:=by
    cases h with
    | fz h=>cases hm
    | ob _ _=>cases hm
    | bx _ _ _ _=>cases hm
    | dq _=>cases hm
    | dA h r=>exact ⟨_,rfl,rfl⟩
    | lst h r=>exact ⟨_,rfl,rfl⟩
    | dK h r=>exact ⟨_,rfl,rfl⟩
    | dT h r=>exact ⟨_,rfl,rfl⟩
    | lk h r=>exact ⟨_,rfl,rfl⟩
   have pF:p∉F2:=(ya8.mp nd).1
   have same:∀ o,hid (upd H p o) ([p]++F2)=hid H ([p]++F2):=λo=>by
    funext a
    by_cases z:a∈[p]++F2
    ·rw [zgN z,zgN z]
    ·rw [zep z,zep z,upd_ne (by simp at z; exact z.1)]
   have rest:∀ o,Helds K (hid (upd H p o) ([p]++F2)) (upd H p o) L F2:=λo=>by
    rw [same o]
    exact r.mono (Ex.refl _) λa z=>upd_ne λy=>pF (y▸z)
   refine ⟨hid H ([p]++F2),p,[p],rfl,h,znR,λq z => ?_,λvs ds r=>⟨[p]++F2,nd,.cons (.lst upd_same ?_) (rest _)⟩,λvs ds r=>⟨[p]++F2,nd,.cons (.dK upd_same ?_) (rest _)⟩,λvs ds r=>⟨[p]++F2,nd,.cons (.dT upd_same ?_) (rest _)⟩⟩
   ·obtain ⟨F1,h1,_⟩:=r.mem q z
    exact ⟨F1,h1⟩
   all_goals
    rw [same]
    exact r
inductive zoJ (K:PySem.W.Frag) (G H:Hp) (p:Addr):M->Hp->Prop
 | lst {vs:List V} {ds:List D} (r:Reps K G vs ds):zoJ K G H p (.lst ds) (upd H p (.lst vs))
 | dK {vs:List (Key×V)} {ds:List (Key×D)} (r:RepK K G vs ds):zoJ K G H p (.dK ds) (upd H p (.dK vs))
 | dT {vs:List (List Key×V)} {ds:List (List Key×D)} (r:RepT K G vs ds):zoJ K G H p (.dT ds) (upd H p (.dT vs))
theorem Sep.mutR {K:PySem.W.Frag} {H:Hp} {L:List (V×M)} {v:V} {m:M} (h:Sep K H ((v,m)::L)) (hm:m.isP=true):∃ G p F,v=.ref p/\Own K G H v m F/\Ex G H/\(∀ q∈exL L,∃ F,Own K G H q.1 q.2 F) /\
 ∀ m' H',zoJ K G H p m' H'->∀ x d,Rep K G x d->Sep K H' ((x,.fz d)::(v,m')::L):=by
 obtain ⟨F,nd,q⟩:=h
 cases q with
 | cons h r =>
   rename_i F1 F2
   obtain ⟨p,rfl,rfl⟩:∃ p,v=.ref p/\F1=[p]:=by
    cases h with
    | fz h=>cases hm
    | ob _ _=>cases hm
    | bx _ _ _ _=>cases hm
    | dq _=>cases hm
    | dA h r=>exact ⟨_,rfl,rfl⟩
    | lst h r=>exact ⟨_,rfl,rfl⟩
    | dK h r=>exact ⟨_,rfl,rfl⟩
    | dT h r=>exact ⟨_,rfl,rfl⟩
    | lk h r=>exact ⟨_,rfl,rfl⟩
   have pF:p∉F2:=(ya8.mp nd).1
   have same:∀ o,hid (upd H p o) ([p]++F2)=hid H ([p]++F2):=λo=>by
    funext a
    by_cases z:a∈[p]++F2
    ·rw [zgN z,zgN z]
    ·rw [zep z,zep z,upd_ne (by simp at z; exact z.1)]
   have rest:∀ o,Helds K (hid (upd H p o) ([p]++F2)) (upd H p o) L F2:=λo=>by
    rw [same o]
    exact r.mono (Ex.refl _) λa z=>upd_ne λy=>pF (y▸z)
   refine ⟨hid H ([p]++F2),p,[p],rfl,h,znR,r.memX,λm' H' mo x d rx => ?_⟩
   ·cases mo with
    | lst r'=>exact ⟨[]++([p]++F2),nd,.cons (.fz (by show Rep K (hid _ ([p]++F2)) x d; rw [same]; exact rx)) (.cons (.lst upd_same (by show Reps K (hid _ ([p]++F2)) _ _; rw [same]; exact r')) (rest _))⟩
    | dK r'=>exact ⟨[]++([p]++F2),nd,.cons (.fz (by show Rep K (hid _ ([p]++F2)) x d; rw [same]; exact rx)) (.cons (.dK upd_same (by show RepK K (hid _ ([p]++F2)) _ _; rw [same]; exact r')) (rest _))⟩
    | dT r'=>exact ⟨[]++([p]++F2),nd,.cons (.fz (by show Rep K (hid _ ([p]++F2)) x d; rw [same]; exact rx)) (.cons (.dT upd_same (by show RepT K (hid _ ([p]++F2)) _ _; rw [same]; exact r')) (rest _))⟩
abbrev En:=List (Option M)
def prs:List (Option V)->En->List (V×M)
 | some v::σ,some m::e=>(v,m)::prs σ e
 | none::σ,some _::e=>prs σ e
 | _::σ,none::e=>prs σ e
 | [],_=>[]
 | _::_,[]=>[]
def Al:List (Option V)->En->Prop
 | [],[]=>True
 | _::σ,none::e=>Al σ e
 | some _::σ,some _::e=>Al σ e
 | _,_=>False
theorem Al.length:∀ {σ:List (Option V)} {e:En},Al σ e->e.length=σ.length
 | [],[],_=>rfl
 | _::σ,none::e,h=>yaX (· + 1) (Al.length (σ:=σ) (e:=e) h)
 | some _::σ,some _::e,h=>yaX (· + 1) (Al.length (σ:=σ) (e:=e) h)
 | [],_::_,h=>h.elim
 | _::_,[],h=>by
   unfold Al at h
   first | exact h.elim | cases h
 | none::_,some _::_,h=>h.elim
theorem zdB (x:Option V) (σ:List (Option V)) (e:En):prs (x::σ) (none::e)=prs σ e:=by cases x<;>rfl
theorem zeC (x:Option V) (σ:List (Option V)) (e:En):Al (x::σ) (none::e)=Al σ e:=by cases x<;>rfl
theorem Al.get:∀ {σ:List (Option V)} {e:En} {i:Nat} {m:M},Al σ e->e[i]?=some (some m)->∃ v,σ[i]?=some (some v)/\(prs σ e).Perm ((v,m)::prs σ (e.set i none))/\Al σ (e.set i none)
 | [],[],i,m,h,g=>by simp at g
 | [],_::_,_,_,h,_=>h.elim
 | _::_,[],_,_,h,g=>by simp at g
 | none::_,some _::_,_,_,h,_=>h.elim
 | x::σ,none::e,0,m,h,g=>by simp at g
 | x::σ,none::e,i+1,m,h,g=>by
   rw [zeC] at h
   obtain ⟨v,e1,p,a⟩:=Al.get (i:=i) h (by simpa using g)
   refine ⟨v,by simpa using e1,?_,?_⟩
   ·rw [ybh,zdB,zdB]
    exact p
   ·rw [ybh,zeC]
    exact a
 | some x::σ,some y::e,0,m,h,g=>by
   simp at g
   subst g
   exact ⟨x,rfl,.refl _,h⟩
 | some x::σ,some y::e,i+1,m,h,g=>by
   obtain ⟨v,e1,p,a⟩:=Al.get (σ:=σ) (e:=e) (i:=i) h (by simpa using g)
   refine ⟨v,by simpa using e1,?_,a⟩
   show ((x,y)::prs σ e).Perm ((v,m)::(x,y)::prs σ (e.set i none))
   exact (p.cons _).trans (.swap _ _ _)
theorem Al.put:∀ {σ:List (Option V)} {e:En} {i:Nat} {v:V} {m:M},Al σ e->i<e.length->(prs (σ.set i (some v)) (e.set i (some m))).Perm ((v,m)::prs σ (e.set i none))/\Al (σ.set i (some v)) (e.set i (some m))
 | [],[],i,v,m,h,g=>by simp at g
 | [],_::_,_,_,_,h,_=>h.elim
 | _::_,[],_,_,_,h,g=>by simp at g
 | none::_,some _::_,_,_,_,h,_=>h.elim
 | x::σ,none::e,0,v,m,h,g=>by
   rw [zeC] at h
   rw [ybi,ybi,ybi,zdB]
   exact ⟨.refl _,h⟩
 | some x::σ,some y::e,0,v,m,h,g=>⟨.refl _,h⟩
 | x::σ,none::e,i+1,v,m,h,g=>by
   rw [zeC] at h
   obtain ⟨p,a⟩:=Al.put (σ:=σ) (e:=e) (i:=i) (v:=v) (m:=m) h (by simpa using g)
   rw [ybh,ybh,ybh,zdB,zdB,zeC]
   exact ⟨p,a⟩
 | some x::σ,some y::e,i+1,v,m,h,g=>by
   obtain ⟨p,a⟩:=Al.put (σ:=σ) (e:=e) (i:=i) (v:=v) (m:=m) h (by simpa using g)
   refine ⟨?_,a⟩
   show ((x,y)::prs (σ.set i (some v)) (e.set i (some m))).Perm ((v,m)::(x,y)::prs σ (e.set i none))
   exact (p.cons _).trans (.swap _ _ _)
theorem Al.drop:∀ {σ:List (Option V)} {e:En} (i:Nat) (x:Option V),Al σ e->Al (σ.set i x) (e.set i none)/\∃ R,(prs σ e).Perm (prs (σ.set i x) (e.set i none)++R)
 | [],[],i,x,h=>⟨h,[],.refl _⟩
 | [],_::_,_,_,h=>h.elim
 | _::_,[],_,_,h=>by
   unfold Al at h
   first | exact h.elim | cases h
 | none::_,some _::_,_,_,h=>h.elim
 | y::σ,none::e,0,x,h=>by
   rw [zeC] at h
   rw [ybi,ybi,zdB,zdB,zeC]
   exact ⟨h,[],by simp⟩
 | some y::σ,some z::e,0,x,h=>by
   rw [ybi,ybi,zdB,zeC]
   refine ⟨h,[(y,z)],?_⟩
   show ((y,z)::prs σ e).Perm (prs σ e++[(y,z)])
   exact yaz (l₁:=[(y,z)])
 | y::σ,none::e,i+1,x,h=>by
   rw [zeC] at h
   obtain ⟨a,R,p⟩:=Al.drop (σ:=σ) (e:=e) i x h
   rw [ybh,ybh,zdB,zdB,zeC]
   exact ⟨a,R,p⟩
 | some y::σ,some z::e,i+1,x,h=>by
   obtain ⟨a,R,p⟩:=Al.drop (σ:=σ) (e:=e) i x h
   exact ⟨a,R,p.cons _⟩
def Ok (K:PySem.W.Frag) (H:Hp) (σ:List (Option V)) (e:En) (P:List (V×M)):Prop:=Al σ e/\Sep K H (prs σ e++P)
section
variable {K:PySem.W.Frag} {H H':Hp} {σ:List (Option V)} {e:En} {P P':List (V×M)} {v:V} {m:M} {i:Nat}
theorem zkF {α:Type} {A B R P:List α} (q:A.Perm (B++R)):(A++P).Perm ((B++P)++R):=by
 refine (q.append_right P).trans ?_
 rw [yah,yah]
 exact yaz.append_left _
theorem Ok.perm (h:Ok K H σ e P) (p:P.Perm P'):Ok K H σ e P':=⟨h.1,h.2.perm (p.append_left _)⟩
theorem Ok.pop {x:V×M} (h:Ok K H σ e (x::P)):Ok K H σ e P:=⟨h.1,(h.2.perm (yae)).tail⟩
theorem Ok.pops (h:Ok K H σ e (P++P')):Ok K H σ e P':=by
 induction P with
 | nil=>exact h
 | cons x P ih=>exact ih h.pop
theorem Ok.peek (h:Ok K H σ e P) (g:e[i]?=some (some m)):∃ v,σ[i]?=some (some v)/\(v,m)∈prs σ e++P:=by
 obtain ⟨v,e1,p,_⟩:=h.1.get g
 exact ⟨v,e1,yan _ (p.mem_iff.mpr yaa)⟩
theorem Ok.take (h:Ok K H σ e P) (g:e[i]?=some (some m)):∃ v,σ[i]?=some (some v)/\Ok K H σ (e.set i none) ((v,m)::P):=by
 obtain ⟨v,e1,p,a⟩:=h.1.get g
 exact ⟨v,e1,a,h.2.perm ((p.append_right P).trans yae.symm)⟩
theorem Ok.give (h:Ok K H σ e ((v,m)::P)) (g:σ[i]?=some (some v)):Ok K H σ (e.set i (some m)) P:=by
 have hi:i<e.length:=by
  rw [h.1.length]
  exact (yaf.mp g).1
 obtain ⟨p,a⟩:=h.1.put (v:=v) (m:=m) hi
 have es:σ.set i (some v)=σ:=by
  apply ybm
  intro j
  by_cases z:i=j
  ·subst z
   rw [yaO (by rw [← h.1.length]; exact hi),g]
  ·rw [yaB z]
 rw [es] at p a
 obtain ⟨_,R,q⟩:=h.1.drop i (some v)
 rw [es] at q
 refine ⟨a,?_⟩
 have h2:Sep K H (((v,m)::prs σ (e.set i none))++P):=by
  exact h.2.of_perm (R:=R) (yae.trans (List.Perm.cons _ (zkF q)))
 exact h2.perm (p.symm.append_right P)
theorem Ok.store (h:Ok K H σ e ((v,m)::P)) (hi:i<e.length):Ok K H (σ.set i (some v)) (e.set i (some m)) P:=by
 obtain ⟨p,a⟩:=h.1.put (v:=v) (m:=m) hi
 refine ⟨a,?_⟩
 obtain ⟨_,R,q⟩:=h.1.drop (σ:=σ) i (σ.getD i none)
 have es:prs (σ.set i (σ.getD i none)) (e.set i none)=prs σ (e.set i none):=by
  congr 1
  apply ybm
  intro j
  by_cases z:i=j
  ·subst z
   by_cases y:i<σ.length
   ·rw [yaO y,yay,yad y]
    rfl
   ·rw [ybs (by omega)]
  ·rw [yaB z]
 rw [es] at q
 have h2:Sep K H (((v,m)::prs σ (e.set i none))++P):=by
  exact h.2.of_perm (R:=R) (yae.trans (List.Perm.cons _ (zkF q)))
 exact h2.perm (p.symm.append_right P)
theorem Ok.forget (h:Ok K H σ e P) (i:Nat) (x:Option V):Ok K H (σ.set i x) (e.set i none) P:=by
 obtain ⟨a,R,q⟩:=h.1.drop i x
 exact ⟨a,h.2.of_perm (R:=R) (zkF q)⟩
end
structure Xn where
 cls:Str
 fld:Option (Str×D):=none
abbrev XQ:=Xn->En->Prop
abbrev WE:=En->(M->En->Prop)->XQ->Prop
abbrev WT:=En->(Bool->En->Prop)->XQ->Prop
inductive Opd where
 | pk (i:Nat) | vl (m:M)
 | fd (i:Nat) (f:Str) (v:V)
abbrev WO:=En->(Opd->En->Prop)->XQ->Prop
abbrev WA:=En->(List Opd->En->Prop)->XQ->Prop
structure WEnds where
 nx:En->Prop
 rt:M->En->Prop
 bk:En->Prop
 ct:En->Prop
 ex:XQ
abbrev WS:=WEnds->En->Prop
abbrev WI:=En->(List D->En->Prop)->XQ->Prop
def zcA (w:WE):Prop:=∀ e Q Q' X X',(∀ m e,Q m e->Q' m e)->(∀ x e,X x e->X' x e)->w e Q X->w e Q' X'
def zek (w:WT):Prop:=∀ e Q Q' X X',(∀ m e,Q m e->Q' m e)->(∀ x e,X x e->X' x e)->w e Q X->w e Q' X'
def zf7 (w:WO):Prop:=∀ e Q Q' X X',(∀ m e,Q m e->Q' m e)->(∀ x e,X x e->X' x e)->w e Q X->w e Q' X'
def zkG (w:WA):Prop:=∀ e Q Q' X X',(∀ m e,Q m e->Q' m e)->(∀ x e,X x e->X' x e)->w e Q X->w e Q' X'
def zoK (w:WI):Prop:=∀ e Q Q' X X',(∀ m e,Q m e->Q' m e)->(∀ x e,X x e->X' x e)->w e Q X->w e Q' X'
structure WEnds.Le (E E':WEnds):Prop where
 nx:∀ e,E.nx e->E'.nx e
 rt:∀ m e,E.rt m e->E'.rt m e
 bk:∀ e,E.bk e->E'.bk e
 ct:∀ e,E.ct e->E'.ct e
 ex:∀ x e,E.ex x e->E'.ex x e
def zfn (w:WS):Prop:=∀ E E' e,E.Le E'->w E e->w E' e
structure Y where
 X:Cx
 xr:Xn->Value->Option Addr->Hp->Prop
 W:WX
def pend:Opd->V->List (V×M)
 | .vl m,v=>[(v,m)]
 | .pk _,_=>[]
 | .fd _ _ _,_=>[]
def pkOk (σ:L2.St):Opd->V->Prop
 | .vl _,_=>True
 | .pk i,v=>σ[i]?=some (some v)
 | .fd _ _ u,v=>v=u
def zeD:List Opd->List V->List (V×M)
 | a::as,v::vs=>zeD as vs++pend a v
 | _,_=>[]
def zoL (σ:L2.St):List Opd->List V->Prop
 | a::as,v::vs=>pkOk σ a v/\zoL σ as vs
 | [],[]=>True
 | _,_=>False
def OkO (K:PySem.W.Frag) (H:Hp) (σ:L2.St) (e:En) (a:Opd) (v:V) (P:List (V×M)):Prop:=Ok K H σ e (pend a v++P)/\pkOk σ a v
def OkA (K:PySem.W.Frag) (H:Hp) (σ:L2.St) (e:En) (as:List Opd) (vs:List V) (P:List (V×M)):Prop:=Ok K H σ e (zeD as vs++P)/\zoL σ as vs
section
variable (y:Y)
def zkH (σ:L2.St) (P:List (V×M)):XQ:=λx e'=>∀ c d H',y.xr x c d H'->Ok y.X.K H' σ e' P->y.W c d σ H'
def zgl (w:WE):TE:=λσ H Q=>∃ e P,Ok y.X.K H σ e P/\w e (λm e'=>∀ v H',Ok y.X.K H' σ e' ((v,m)::P)->Q v H') (zkH y σ P)
def zpH (w:WT):TT:=λσ H Q=>∃ e P,Ok y.X.K H σ e P/\w e (λb e'=>∀ H',Ok y.X.K H' σ e' P->Q b H') (zkH y σ P)
def zlG (w:WO):TE:=λσ H Q=>∃ e P,Ok y.X.K H σ e P/\w e (λa e'=>∀ v H',OkO y.X.K H' σ e' a v P->Q v H') (zkH y σ P)
def zpI (w:WA):TA:=λσ H Q=>∃ e P,Ok y.X.K H σ e P/\w e (λas e'=>∀ vs H',OkA y.X.K H' σ e' as vs P->Q vs H') (zkH y σ P)
end
structure SE (y:Y) (e:Expr) (w:WE):Prop where
 run:PE y.X e (zgl y w)
 mono:zcA w
structure ST (y:Y) (e:Expr) (w:WT):Prop where
 run:PT y.X e (zpH y w)
 mono:zek w
structure STw (y:Y) (e:Expr) (w:WT):Prop where
 run:PW y.X e (zpH y w)
 mono:zek w
structure SO (y:Y) (e:Expr) (w:WO):Prop where
 run:PE y.X e (zlG y w)
 mono:zf7 w
structure SA (y:Y) (es:List Expr) (w:WA):Prop where
 run:PA y.X es (zpI y w)
 mono:zkG w
theorem zbH {X:Cx} {e:Expr} {t t':TE} (h:PE X e t) (i:∀ σ H Q,t' σ H Q->t σ H Q):PE X e t':=⟨λpins s σ H Q I q=>h.run pins s σ H Q I (i _ _ _ q)⟩
theorem znV {X:Cx} {e:Expr} {t t':TT} (h:PT X e t) (i:∀ σ H Q,t' σ H Q->t σ H Q):PT X e t':=⟨λpins s σ H Q I q=>h.run pins s σ H Q I (i _ _ _ q)⟩
theorem ztF {X:Cx} {e:Expr} {t t':TT} (h:PW X e t) (i:∀ σ H Q,t' σ H Q->t σ H Q):PW X e t':=⟨λwh pins s σ H Q I q=>h.run wh pins s σ H Q I (i _ _ _ q)⟩
theorem ztG {X:Cx} {e:List Expr} {t t':TA} (h:PA X e t) (i:∀ σ H Q,t' σ H Q->t σ H Q):PA X e t':=⟨λpos pins s σ H Q I q=>h.run pos pins s σ H Q I (i _ _ _ q)⟩
theorem zdW {X:Cx} {e:Stmt} {t t':TS} (h:PS X e t) (i:∀ D σ H,t' D σ H->t D σ H):PS X e t':=⟨λpins s σ H D I q=>h.run pins s σ H D I (i _ _ _ q)⟩
theorem zmW {X:Cx} {e:List Stmt} {t t':TS} (h:PSs X e t) (i:∀ D σ H,t' D σ H->t D σ H):PSs X e t':=⟨λpins s σ H D I q=>h.run pins s σ H D I (i _ _ _ q)⟩
theorem ztH {X:Cx} {tg e:Expr} {t t':TI} (h:PI X tg e t) (i:∀ σ H R,t' σ H R->t σ H R):PI X tg e t':=⟨λpins s σ H R I q=>h.run pins s σ H R I (i _ _ _ q)⟩
def Owns (K:PySem.W.Frag) (G H:Hp):List V->List M->Prop
 | v::vs,m::ms=>(∃ F,Own K G H v m F)/\Owns K G H vs ms
 | [],[]=>True
 | _,_=>False
abbrev OP1:=M->(M->Prop)->Prop
abbrev OP2:=M->M->(M->Prop)->Prop
abbrev OPN:=List M->(M->Prop)->Prop
structure Snd1 (K:PySem.W.Frag) (r:V->Hp->VK->Prop) (op:OP1):Prop where
 run:∀ G H x mx F (Q:VK),Ex G H->Own K G H x mx F->op mx (λm=>∀ v H',zhj K G H m v H'->Q v H')->r x H Q
 mono:∀ a (q q':M->Prop),(∀ m,q m->q' m)->op a q->op a q'
structure Snd2 (K:PySem.W.Frag) (r:R2) (op:OP2):Prop where
 run:∀ G H x y mx my F F' (Q:VK),Ex G H->Own K G H x mx F->Own K G H y my F'->op mx my (λm=>∀ v H',zhj K G H m v H'->Q v H')->r x y H Q
 mono:∀ a b (q q':M->Prop),(∀ m,q m->q' m)->op a b q->op a b q'
structure SndN (K:PySem.W.Frag) (r:List V->Hp->VK->Prop) (op:OPN):Prop where
 run:∀ G H xs ms (Q:VK),Ex G H->Owns K G H xs ms->op ms (λm=>∀ v H',zhj K G H m v H'->Q v H')->r xs H Q
 mono:∀ a (q q':M->Prop),(∀ m,q m->q' m)->op a q->op a q'
def fdO (o:Option (Option M)) (f:Str) (v:V) (k:M->Prop):Prop:=match o with
 | some (some (.ob _ _ fs))=>(match fs.lookup f with
   | some x=>x.1=v/\k x.2.m
   | none=>False)
 | _=>False
theorem zrY {o:Option (Option M)} {f:Str} {v:V} {k k':M->Prop} (h:∀ m,k m->k' m) (q:fdO o f v k):fdO o f v k':=by
 unfold fdO at *
 split at q
 ·split at q
  ·exact ⟨q.1,h _ q.2⟩
  ·exact q.elim
 ·exact q.elim
theorem zkb {α:Type} {f:Str} {x:α}:∀ {fs:List (Str×α)},fs.lookup f=some x->∃ g,(g,x)∈fs
 | [],h=>by cases h
 | (g,z)::fs,h=>by
   rw [List.lookup_cons] at h
   split at h
   ·cases h
    exact ⟨g,yaa⟩
   ·obtain ⟨g',h'⟩:=zkb h
    exact ⟨g',yab _ h'⟩
def zbB (a:Opd) (e:En) (k:M->Prop):Prop :=
 match a with
 | .vl m=>k m
 | .pk i=>match e[i]? with
   | some (some m)=>k m
   | _=>False
 | .fd i f v=>fdO e[i]? f v k
def zc3:List Opd->En->(List M->Prop)->Prop
 | [],_,k=>k []
 | a::as,e,k=>zbB a e λm=>zc3 as e λms=>k (m::ms)
theorem zaX {a:Opd} {e:En} {k k':M->Prop} (h:∀ m,k m->k' m) (q:zbB a e k):zbB a e k':=by
 cases a with
 | vl m=>exact h m q
 | pk i =>
   unfold zbB at *
   dsimp only at *
   split at q
   ·rename_i e1
    exact h _ q
   ·exact q.elim
 | fd i f v=>exact zrY h q
theorem zeY:∀ {as:List Opd} {e:En} {k k':List M->Prop},(∀ m,k m->k' m)->zc3 as e k->zc3 as e k'
 | [],_,_,_,h,q=>h _ q
 | a::as,_,_,_,h,q=>zaX (λm q=>zeY (λms q=>h _ q) q) q
section
variable {K:PySem.W.Frag} {H:Hp} {σ:L2.St} {e:En} {P:List (V×M)} {y:Y}
theorem zpJ {i:Nat} {f:Str} {v:V} {k:M->Prop} {R:List (V×M)} (h:Ok K H σ e R) (q:fdO e[i]? f v k):∃ m,(v,m)∈exL (prs σ e++R)/\k m:=by
 unfold fdO at q
 split at q
 ·rename_i fs e1
  split at q
  ·rename_i x ex
   obtain ⟨v',e2,hm⟩:=h.peek e1
   obtain ⟨g,hx⟩:=zkb ex
   obtain ⟨rfl,q⟩:=q
   exact ⟨_,zuz hm hx,q⟩
  ·exact q.elim
 ·exact q.elim
theorem zdG {a:Opd} {v:V} {k:M->Prop} (h:Ok K H σ e (pend a v++P)) (hp:pkOk σ a v) (q:zbB a e k):∃ m,(v,m)∈exL (prs σ e++(pend a v++P))/\k m:=by
 cases a with
 | vl m=>exact ⟨m,ziP (yag _ (yan _ yaa)),q⟩
 | fd i f u =>
   cases hp
   exact zpJ h q
 | pk i =>
   unfold zbB at q
   dsimp only at q
   split at q
   ·rename_i m e1
    obtain ⟨v',e2,hm⟩:=h.peek e1
    have e3:some (some v)=some (some v'):=hp.symm.trans e2
    cases e3
    exact ⟨m,ziP hm,q⟩
   ·exact q.elim
theorem zbI {a:Opd} {v:V} {k:M->Prop} {R:List (V×M)} (h:Ok K H σ e R) (hs:∀ p∈pend a v,p∈R) (hp:pkOk σ a v) (q:zbB a e k):∃ m,(v,m)∈exL (prs σ e++R)/\k m:=by
 cases a with
 | vl m=>exact ⟨m,ziP (yag _ (hs _ yaa)),q⟩
 | fd i f u =>
   cases hp
   exact zpJ h q
 | pk i =>
   unfold zbB at q
   dsimp only at q
   split at q
   ·rename_i m e1
    obtain ⟨v',e2,hm⟩:=h.peek e1
    have e3:some (some v)=some (some v'):=hp.symm.trans e2
    cases e3
    exact ⟨m,ziP hm,q⟩
   ·exact q.elim
theorem zhk:∀ {as:List Opd} {vs:List V} {k:List M->Prop} {R:List (V×M)} {G:Hp},Ok K H σ e R->Opn K H (prs σ e++R) G->(∀ p∈zeD as vs,p∈R)->zoL σ as vs->zc3 as e k->∃ ms,Owns K G H vs ms/\k ms
 | [],[],_,_,_,_,_,_,_,q=>⟨[],trivial,q⟩
 | [],_::_,_,_,_,_,_,_,hp,_=>hp.elim
 | _::_,[],_,_,_,_,_,_,hp,_=>hp.elim
 | a::as,v::vs,k,R,G,h,g,hs,hp,q=>by
   obtain ⟨m,hm,q⟩:=zbI h (λp z=>hs p (yag _ z)) hp.1 q
   obtain ⟨ms,ho,q⟩:=zhk h g (λp z=>hs p (yan _ z)) hp.2 q
   exact ⟨m::ms,⟨g.ownX _ hm,ho⟩,q⟩
theorem Opn.fin {G H':Hp} {R:List (V×M)} {m:M} {v:V} (g:Opn K H (prs σ e++(R++P)) G) (a:Al σ e) (r:zhj K G H m v H'):Ok K H' σ e ((v,m)::P):=by
 refine ⟨a,(g.res m v H' r).of_perm (R:=R) ?_⟩
 refine List.Perm.trans ?_ ((yae.symm.append_right R))
 refine List.Perm.cons _ ?_
 show List.Perm _ ((prs σ e++P)++R)
 rw [yah]
 exact (yaz).append_left _
end
def w1 (op:OP1) (o:WO):WE:=λe Q X=>o e (λa e1=>zbB a e1 λma=>op ma λm=>Q m e1) X
def w2 (op:OP2) (o1 o2:WO):WE:=λe Q X=>o1 e (λa e1=>o2 e1 (λb e2=>zbB a e2 λma=>zbB b e2 λmb=>op ma mb λm=>Q m e2) X) X
def wN (op:OPN) (wa:WA):WE:=λe Q X=>wa e (λas e1=>zc3 as e1 λms=>op ms λm=>Q m e1) X
section
variable {y:Y} {a b:Expr} {oa ob:WO} {op:OP2} {r:R2}
theorem zuA {op:OP1} {o:WO} {K:PySem.W.Frag} {r:V->Hp->VK->Prop} (hs:Snd1 K r op) (ho:zf7 o):zcA (w1 op o):=λe Q Q' X X' hq hx q =>
 ho e _ _ _ _ (λa e1 q=>zaX (λma q=>hs.mono _ _ _ (λm q=>hq m e1 q) q) q) hx q
theorem ziQ {K:PySem.W.Frag} (hs:Snd2 K r op) (ha:zf7 oa) (hb:zf7 ob):zcA (w2 op oa ob):=λe Q Q' X X' hq hx q =>
 ha e _ _ _ _ (λa e1 q=>hb e1 _ _ _ _ (λb e2 q=>zaX (λma q=>zaX (λmb q=>hs.mono _ _ _ _ (λm q=>hq m e2 q) q) q) q) hx q) hx q
theorem zkI {op:OPN} {wa:WA} {K:PySem.W.Frag} {r:List V->Hp->VK->Prop} (hs:SndN K r op) (ho:zkG wa):zcA (wN op wa):=λe Q Q' X X' hq hx q =>
 ho e _ _ _ _ (λa e1 q=>zeY (λma q=>hs.mono _ _ _ (λm q=>hq m e1 q) q) q) hx q
theorem zdo {a:Opd} {v:V} {σ:L2.St} {P:List (V×M)} {x:Xn} {e':En} (h:zkH y σ P x e'):zkH y σ (pend a v++P) x e':=λc d H' r o=>h c d H' r o.pops
theorem lift1 {op:OP1} {o:WO} {r:V->Hp->VK->Prop} (hs:Snd1 y.X.K r op) (ho:zf7 o) (σ:L2.St) (H:Hp) (Q:VK) (h:zgl y (w1 op o) σ H Q):zlG y o σ H λx H1=>r x H1 Q:=by
 obtain ⟨e,P,h0,h⟩:=h
 refine ⟨e,P,h0,ho e _ _ _ _ (λa e1 q v H1 o1 => ?_) (λ_ _ q=>q) h⟩
 obtain ⟨o1,p1⟩:=o1
 obtain ⟨ma,m1,q⟩:=zdG o1 p1 q
 obtain ⟨G,g⟩:=o1.2.opn
 obtain ⟨F1,w1⟩:=g.ownX _ m1
 exact hs.run G H1 v ma F1 Q g.ex w1 (hs.mono _ _ _ (λm q v' H' r'=>q v' H' (g.fin o1.1 r')) q)
theorem zrZ (hs:Snd2 y.X.K r op) (ha:zf7 oa) (hb:zf7 ob) (σ:L2.St) (H:Hp) (Q:VK) (h:zgl y (w2 op oa ob) σ H Q):tOp r (zlG y oa) (zlG y ob) σ H Q:=by
 obtain ⟨e,P,h0,h⟩:=h
 refine ⟨e,P,h0,ha e _ _ _ _ (λa e1 q v H1 o1 => ?_) (λ_ _ q=>q) h⟩
 obtain ⟨o1,p1⟩:=o1
 refine ⟨e1,pend a v++P,o1,hb e1 _ _ _ _ (λb e2 q u H2 o2 => ?_) (λ_ _ q=>zdo q) q⟩
 obtain ⟨o2,p2⟩:=o2
 obtain ⟨ma,m1,q⟩:=zbI o2 (λp z=>yag _ (yan _ z)) p1 q
 obtain ⟨mb,m2,q⟩:=zdG o2 p2 q
 obtain ⟨G,g⟩:=o2.2.opn
 obtain ⟨F1,w1⟩:=g.ownX _ m1
 obtain ⟨F2,w2⟩:=g.ownX _ m2
 rw [show pend b u++(pend a v++P)=(pend b u++pend a v)++P from (yah _ _ _).symm] at g
 exact hs.run G H2 v u ma mb F1 F2 Q g.ex w1 w2 (hs.mono _ _ _ _ (λm q v' H' r'=>q v' H' (g.fin o2.1 r')) q)
theorem zr0 {op:OPN} {wa:WA} {r:List V->Hp->VK->Prop} (hs:SndN y.X.K r op) (ho:zkG wa) (σ:L2.St) (H:Hp) (Q:VK) (h:zgl y (wN op wa) σ H Q):zpI y wa σ H λxs H1=>r xs H1 Q:=by
 obtain ⟨e,P,h0,h⟩:=h
 refine ⟨e,P,h0,ho e _ _ _ _ (λas e1 q vs H1 o1 => ?_) (λ_ _ q=>q) h⟩
 obtain ⟨o1,p1⟩:=o1
 obtain ⟨G,g⟩:=o1.2.opn
 obtain ⟨ms,m1,q⟩:=zhk o1 g (λp z=>yan _ z) p1 q
 exact hs.run G H1 vs ms Q g.ex m1 (hs.mono _ _ _ (λm q v' H' r'=>q v' H' (g.fin o1.1 r')) q)
end
def oVal (w:WE):WO:=λe Q X=>w e (λm e'=>Q (.vl m) e') X
def oFz (w:WE):WO:=λe Q X=>w e (λm e'=>Q (.vl (.fz m.d)) e') X
def oPk (i:Nat):WO:=λe Q _=>match e[i]? with
 | some (some _)=>Q (.pk i) e
 | _=>False
def wVar (i:Nat):WE:=λe Q _=>match e[i]? with
 | some (some m)=>Q (.fz m.d) (e.set i (some (.fz m.d)))
 | _=>False
def wC (d:D):WE:=λe Q _=>Q (.fz d) e
def aNil:WA:=λe Q _=>Q [] e
def zag (o:WO) (r:WA):WA:=λe Q X=>o e (λa e1=>r e1 (λas e2=>Q (a::as) e2) X) X
section
variable {y:Y} {e:Expr} {es:List Expr} {w:WE}
theorem zab (h:SE y e w):SO y e (oVal w) where
 run:=zbH h.run λσ H Q ⟨e,P,h0,q⟩=>⟨e,P,h0,h.mono _ _ _ _ _ (λm e' q v H' o=>q v H' ⟨o,trivial⟩) (λ_ _ q=>q) q⟩
 mono:=λe Q Q' X X' hq hx q=>h.mono _ _ _ _ _ (λm e' q=>hq _ _ q) hx q
theorem Ok.freeze {K:PySem.W.Frag} {H:Hp} {σ:L2.St} {e:En} {P:List (V×M)} {v:V} {m:M} (h:Ok K H σ e ((v,m)::P)):Ok K H σ e ((v,.fz m.d)::P) :=
 ⟨h.1,(h.2.perm yae).freeze.perm yae.symm⟩
theorem zas (h:SE y e w):SO y e (oFz w) where
 run:=zbH h.run λσ H Q ⟨e,P,h0,q⟩=>⟨e,P,h0,h.mono _ _ _ _ _ (λm e' q v H' o=>q v H' ⟨o.freeze,trivial⟩) (λ_ _ q=>q) q⟩
 mono:=λe Q Q' X X' hq hx q=>h.mono _ _ _ _ _ (λm e' q=>hq _ _ q) hx q
theorem zaf:SA y [] aNil where
 run:=ztG pa_nil λσ H Q ⟨e,P,h0,q⟩=>q [] H ⟨h0,trivial⟩
 mono:=λe Q Q' X X' hq hx q=>hq _ _ q
theorem zhl {o:WO} {r:WA} (h:SO y e o) (hr:SA y es r) (hs:starEach (e::es) y.X.env=(false,eval e y.X.env)::starEach es y.X.env):SA y (e::es) (zag o r) where
 run:=ztG (pa_cons h.run hr.run hs) λσ H Q ⟨e,P,h0,q⟩=>by
  refine ⟨e,P,h0,h.mono _ _ _ _ _ (λa e1 q v H1 o1 => ?_) (λ_ _ q=>q) q⟩
  obtain ⟨o1,p1⟩:=o1
  refine ⟨e1,pend a v++P,o1,hr.mono _ _ _ _ _ (λas e2 q vs H2 o2 => ?_) (λ_ _ q=>zdo q) q⟩
  obtain ⟨o2,p2⟩:=o2
  refine q (v::vs) H2 ⟨?_,p1,p2⟩
  show Ok y.X.K H2 σ e2 ((zeD as vs++pend a v)++P)
  rw [yah]
  exact o2
 mono:=λe Q Q' X X' hq hx q=>h.mono _ _ _ _ _ (λa e1 q=>hr.mono _ _ _ _ _ (λas e2 q=>hq _ _ q) hx q) hx q
theorem so_pk {i:Nat} {x:Str} {pos:Pos} (hN:y.X.N[i]?=some x) (hv:Vis y.X.env.scope x) (hd:(x==("__debug__" : Str))=false) (hcd:(x==("__classdict__" : Str))=false):SO y (.Name x pos) (oPk i) where
 run:=zbH (pe_var hN hv hd hcd) λσ H Q ⟨e,P,h0,q⟩=>by
  unfold oPk at q
  split at q
  ·rename_i m e1
   obtain ⟨v,e2,_⟩:=h0.peek e1
   exact ⟨v,e2,q v H ⟨h0,e2⟩⟩
  ·exact q.elim
 mono:=λe Q Q' X X' hq hx q=>by
  unfold oPk at *
  split at q
  ·exact hq _ _ q
  ·exact q.elim
theorem se_var {i:Nat} {x:Str} {pos:Pos} (hN:y.X.N[i]?=some x) (hv:Vis y.X.env.scope x) (hd:(x==("__debug__" : Str))=false) (hcd:(x==("__classdict__" : Str))=false):SE y (.Name x pos) (wVar i) where
 run:=zbH (pe_var hN hv hd hcd) λσ H Q ⟨e,P,h0,q⟩=>by
  unfold wVar at q
  split at q
  ·rename_i m e1
   obtain ⟨v,e2,o⟩:=h0.take e1
   refine ⟨v,e2,q v H ?_⟩
   have o:=o.freeze
   have c:Ok y.X.K H σ (e.set i none) ((v,.fz m.d)::(v,.fz m.d)::P):=by
    obtain ⟨G,g⟩:=o.2.opn
    obtain ⟨F,w⟩:=g.own (v,.fz m.d) (yag _ yaa)
    cases w with
    | fz w=>exact ⟨o.1,(g.res _ _ _ (.same w)).perm yae.symm⟩
   have c:=Ok.give (i:=i) c e2
   rw [ybD] at c
   exact c
  ·exact q.elim
 mono:=λe Q Q' X X' hq hx q=>by
  unfold wVar at *
  split at q
  ·exact hq _ _ q
  ·exact q.elim
theorem zeZ {v:V} {d:D} (h:PE y.X e (tC v)) (r:∀ G,Rep y.X.K G v d):SE y e (wC d) where
 run:=zbH h λσ H Q ⟨e,P,h0,q⟩=>by
  refine q v H ?_
  obtain ⟨G,g⟩:=h0.2.opn
  exact ⟨h0.1,(g.res _ _ _ (.same (r G))).perm yae.symm⟩
 mono:=λe Q Q' X X' hq hx q=>hq _ _ q
end
section
variable {y:Y} {a b:Expr} {oa ob:WO} {op:OP2} {r:R2} {pos:Pos}
theorem zao {o:Operator} (ho:OpR y.X (binaryOp o) r) (hs:Snd2 y.X.K r op) (ha:SO y a oa) (hb:SO y b ob):SE y (.BinOp a o b pos) (w2 op oa ob) :=
 ⟨zbH (pe_op ho ha.run hb.run) (zrZ hs ha.mono hb.mono),ziQ hs ha.mono hb.mono⟩
theorem se_un {o:UnaryOp} {r:V->Hp->VK->Prop} {op:OP1} (ho:UnR y.X (unaryOp o) r) (hs:Snd1 y.X.K r op) (ha:SO y a oa):SE y (.UnaryOp o a pos) (w1 op oa) :=
 ⟨zbH (pe_un ho ha.run) (lift1 hs ha.mono),zuA hs ha.mono⟩
theorem se_cmp {o:CmpOp} (ho:OpR y.X (compareOp o) r) (hs:Snd2 y.X.K r op) (ha:SO y a oa) (hb:SO y b ob) (hm:behindInMarks o b=false):SE y (.Compare a [o] [b] pos) (w2 op oa ob) :=
 ⟨zbH (pe_cmpR ho ha.run hb.run hm) (zrZ hs ha.mono hb.mono),ziQ hs ha.mono hb.mono⟩
theorem se_ix (ho:IxR y.X r) (hs:Snd2 y.X.K r op) (ha:SO y a oa) (hb:SO y b ob) (hp:PlainIx b):SE y (.Subscript a b pos) (w2 op oa ob) :=
 ⟨zbH (pe_ix ho ha.run hb.run hp) (zrZ hs ha.mono hb.mono),ziQ hs ha.mono hb.mono⟩
def tVal (w:WE):WT:=λe Q X=>w e (λm e'=>match m with
 | .fz (.bl b)=>Q b e'
 | _=>False) X
theorem zoM {K:PySem.W.Frag} {H:Hp} {σ:L2.St} {e:En} {P:List (V×M)} {v:V} {b:Bool} (h:Ok K H σ e ((v,.fz (.bl b))::P)):v=.bl b:=by
 obtain ⟨G,g⟩:=h.2.opn
 obtain ⟨F,w⟩:=g.own (v,.fz (.bl b)) (yag _ yaa)
 cases w with
 | fz w =>
   cases w
   rfl
theorem zlH {w:WE} (h:zcA w):zek (tVal w):=λe Q Q' X X' hq hx q=>h _ _ _ _ _ (λm e' q=>by
 split at q
 ·exact hq _ _ q
 ·exact q.elim) hx q
theorem st_cmp {o:CmpOp} (ho:OpR y.X (compareOp o) r) (hs:Snd2 y.X.K r op) (ha:SO y a oa) (hb:SO y b ob) (hm:behindInMarks o b=false):ST y (.Compare a [o] [b] pos) (tVal (w2 op oa ob)) where
 run:=znV (pt_cmpR ho ha.run hb.run hm) λσ H Q ⟨e,P,h0,q⟩=>by
  refine zrZ hs ha.mono hb.mono σ H (λx H'=>∃ k,x=.bl k/\Q k H') ⟨e,P,h0,ziQ hs ha.mono hb.mono _ _ _ _ _ (λm e' q v H' o => ?_) (λ_ _ q=>q) q⟩
  dsimp only at q
  split at q
  ·exact ⟨_,zoM o,q H' o.pop⟩
  ·exact q.elim
 mono:=zlH (ziQ hs ha.mono hb.mono)
def truD:D->Option Bool
 | .non=>some false
 | .bl b=>some b
 | .int i=>some (i != 0)
 | .str s=>if s.length<=sizeLine then some ((s.length:Int) != 0) else none
 | .tup ds=>some !ds.isEmpty
 | .lst ds=>some !ds.isEmpty
 | _=>none
def tTru (o:WO):WT:=λe Q X=>o e (λa e1=>zbB a e1 λm=>match truD m.d with
 | some b=>Q b e1
 | none=>False) X
theorem Reps.isEmpty {K:PySem.W.Frag} {G:Hp} {vs:List V} {ds:List D} (r:Reps K G vs ds):vs.isEmpty=ds.isEmpty:=by
 cases r<;>rfl
theorem zuB {K:PySem.W.Frag} {G H:Hp} {x:V} {m:M} {F:List Addr} {b:Bool} (ex:Ex G H) (h:Own K G H x m F) (e:truD m.d=some b):TruV K x H b:=by
 cases h with
 | fz h =>
   cases h with
   | non=>cases e; rfl
   | bl _=>cases e; rfl
   | int _=>cases e; rfl
   | str s =>
     simp only [M.d,truD] at e
     split at e
     ·cases e
      exact ⟨by assumption,rfl⟩
     ·cases e
   | ty _=>cases e
   | scr _=>cases e
   | opq _=>cases e
   | att _ _=>cases e
   | adr _=>cases e
   | atx _ _=>cases e
   | tup h r=>cases e; exact .inr (.inl ⟨_,(h.mono ex).sqT,by rw [r.isEmpty]⟩)
   | lst h r=>cases e; exact .inl ⟨_,.of (ex.keep h),by rw [r.isEmpty]⟩
   | dK h r=>cases e
   | dT h r=>cases e
 | lst h r=>cases e; exact .inl ⟨_,.of h,by rw [r.isEmpty]⟩
 | dK h r=>cases e
 | dT h r=>cases e
 | lk h r=>cases e
 | bx _ _ _ _=>cases e
 | dq _=>cases e
 | dA _ _=>cases e
 | ob _ _=>cases e
theorem st_tru (h:SO y a oa) (he:∀ whole,isTrue a y.X.env whole=(do let v ← whole; standAt a.pos; holding [v] (truthy v))):ST y a (tTru oa) where
 run:=znV (pt_truth h.run he) λσ H Q ⟨e,P,h0,q⟩=>⟨e,P,h0,h.mono _ _ _ _ _ (λa e1 q v H1 o1=>by
  obtain ⟨o1,p1⟩:=o1
  obtain ⟨ma,m1,q⟩:=zdG o1 p1 q
  obtain ⟨G,g⟩:=o1.2.opn
  obtain ⟨F1,w1⟩:=g.ownX _ m1
  split at q
  ·rename_i e
   exact ⟨_,zuB g.ex w1 e,q H1 o1.pops⟩
  ·exact q.elim) (λ_ _ q=>q) q⟩
 mono:=λe Q Q' X X' hq hx q=>h.mono _ _ _ _ _ (λa e1 q=>zaX (λm q=>by
  split at q
  ·exact hq _ _ q
  ·exact q.elim) q) hx q
def zr1 (t u:WT):WT:=λe Q X=>t e (λb e1=>if b=true then u e1 Q X else Q false e1) X
def tOrW (t u:WT):WT:=λe Q X=>t e (λb e1=>if b=true then Q true e1 else u e1 Q X) X
def zel (t:WT):WT:=λe Q X=>t e (λb e1=>Q (!b) e1) X
def wIf (t:WT) (a b:WE):WE:=λe Q X=>t e (λc e1=>if c=true then a e1 Q X else b e1 Q X) X
variable {t u:WT} {rest:List Expr}
theorem STw.st {e:Expr} (h:STw y e t):ST y e t:=⟨h.run.pt,h.mono⟩
theorem zr2 (h:ST y a t):STw y (.BoolOp .And [a] pos) t:=⟨pw_and1 h.run,h.mono⟩
theorem zdP (h:ST y a t):STw y (.BoolOp .Or [a] pos) t:=⟨pw_or1 h.run,h.mono⟩
theorem zpK (h:zek t) (h':zek u):zek (zr1 t u):=λe Q Q' X X' hq hx q=>h _ _ _ _ _ (λb e1 q=>by
 cases b with
 | true=>exact iteT (h' _ _ _ _ _ hq hx (by simpa using q))
 | false=>exact iteF (hq _ _ (by simpa using q))) hx q
theorem zr3 (h:zek t) (h':zek u):zek (tOrW t u):=λe Q Q' X X' hq hx q=>h _ _ _ _ _ (λb e1 q=>by
 cases b with
 | true=>exact iteT (hq _ _ (by simpa using q))
 | false=>exact iteF (h' _ _ _ _ _ hq hx (by simpa using q))) hx q
theorem zuC (h:ST y a t) (h':STw y (.BoolOp .And (b::rest) pos) u):STw y (.BoolOp .And (a::b::rest) pos) (zr1 t u) where
 run:=ztF (pw_and h.run h'.run) λσ H Q ⟨e,P,h0,q⟩=>⟨e,P,h0,h.mono _ _ _ _ _ (λb e1 q H1 o=>by
  cases b with
  | true=>exact iteT ⟨e1,P,o,by simpa using q⟩
  | false =>
    rw [yaH yat] at q
    exact iteF (q H1 o)) (λ_ _ q=>q) q⟩
 mono:=zpK h.mono h'.mono
theorem zdH (h:ST y a t) (h':STw y (.BoolOp .Or (b::rest) pos) u):STw y (.BoolOp .Or (a::b::rest) pos) (tOrW t u) where
 run:=ztF (pw_or h.run h'.run) λσ H Q ⟨e,P,h0,q⟩=>⟨e,P,h0,h.mono _ _ _ _ _ (λb e1 q H1 o=>by
  cases b with
  | true =>
    rw [yaM rfl] at q
    exact iteT (q H1 o)
  | false=>exact iteF ⟨e1,P,o,by simpa using q⟩) (λ_ _ q=>q) q⟩
 mono:=zr3 h.mono h'.mono
theorem zc0 (h:ST y a t):ST y (.UnaryOp .Not a pos) (zel t) where
 run:=znV (pt_not h.run) λσ H Q ⟨e,P,h0,q⟩=>⟨e,P,h0,q⟩
 mono:=λe Q Q' X X' hq hx q=>h.mono _ _ _ _ _ (λb e1 q=>hq _ _ q) hx q
theorem zr4 {wa wb:WE} (h:zek t) (ha:zcA wa) (hb:zcA wb):zcA (wIf t wa wb):=λe Q Q' X X' hq hx q=>h _ _ _ _ _ (λb e1 q=>by
 cases b with
 | true=>exact iteT (ha _ _ _ _ _ hq hx (by simpa using q))
 | false=>exact iteF (hb _ _ _ _ _ hq hx (by simpa using q))) hx q
theorem zuD {c:Expr} {wa wb:WE} (h:ST y c t) (ha:SE y a wa) (hb:SE y b wb):SE y (.IfExp c a b pos) (wIf t wa wb) where
 run:=zbH (pe_ifExp h.run ha.run hb.run) λσ H Q ⟨e,P,h0,q⟩=>⟨e,P,h0,h.mono _ _ _ _ _ (λb e1 q H1 o=>by
  cases b with
  | true=>exact iteT ⟨e1,P,o,by simpa using q⟩
  | false=>exact iteF ⟨e1,P,o,by simpa using q⟩) (λ_ _ q=>q) q⟩
 mono:=zr4 h.mono ha.mono hb.mono
def wAnd (a b:WE):WE:=λe Q X=>a e (λm e1=>match m with
 | .fz (.bl true)=>b e1 Q X
 | .fz (.bl false)=>Q (.fz (.bl false)) e1
 | _=>False) X
variable {wa wb:WE}
theorem zkJ {K:PySem.W.Frag} {H:Hp} {σ:L2.St} {e:En} {P:List (V×M)} (b:Bool) (h:Ok K H σ e P):Ok K H σ e ((.bl b,.fz (.bl b))::P):=by
 obtain ⟨G,g⟩:=h.2.opn
 exact ⟨h.1,(g.res _ _ _ (.same (.bl b))).perm yae.symm⟩
theorem ztI (ha:SE y a wa) (hb:SE y (.BoolOp .And (b::rest) pos) wb):SE y (.BoolOp .And (a::b::rest) pos) (wAnd wa wb) where
 run:=zbH (pe_and ha.run hb.run) λσ H Q ⟨e,P,h0,q⟩=>⟨e,P,h0,ha.mono _ _ _ _ _ (λm e1 q v H1 o=>by
  dsimp only at q
  split at q
  ·exact ⟨_,zoM o,iteT ⟨e1,P,o.pop,q⟩⟩
  ·exact ⟨_,zoM o,iteF (q _ _ (zkJ false o.pop))⟩
  ·exact q.elim) (λ_ _ q=>q) q⟩
 mono:=λe Q Q' X X' hq hx q=>ha.mono _ _ _ _ _ (λm e1 q=>by
  split at q
  ·exact hb.mono _ _ _ _ _ hq hx q
  ·exact hq _ _ q
  ·exact q.elim) hx q
theorem ztJ {o:BoolOp} (ha:SE y a wa):SE y (.BoolOp o [a] pos) wa:=⟨pe_one ha.run,ha.mono⟩
end
end VW
namespace VW
open PySem PySem.Spec PyProof.Rows L2
def fzs:List M->Option (List D)
 | []=>some []
 | .fz d::ms=>(fzs ms).map (d :: ·)
 | _::_=>none
def dsl (es:List D) (k:Prop):Prop:=match Nat.ble es.length 4096 with
 | true=>k
 | false=>False
theorem ztK {es:List D} {k:Prop} (h:dsl es k):es.length<=sizeLine/\k:=by
 unfold dsl at h
 split at h
 ·rename_i e
  exact ⟨ya5 (yaD e) (by decide),h⟩
 ·exact h.elim
theorem znW {es:List D} {k k':Prop} (i:k->k') (h:dsl es k):dsl es k':=by
 unfold dsl at *
 split at h
 ·exact i h
 ·exact h.elim
def zfo:OPN:=λms q=>match fzs ms with
 | some ds=>dsl ds (q (.fz (.tup ds)))
 | none=>False
def zcd:OPN:=λms q=>match fzs ms with
 | some ds=>dsl ds (q (.lst ds))
 | none=>False
theorem zkK {K:PySem.W.Frag} {G H:Hp}:∀ {vs:List V} {ms:List M} {ds:List D},Owns K G H vs ms->fzs ms=some ds->Reps K G vs ds
 | [],[],_,_,e=>by
   cases e
   exact .nil
 | v::vs,.fz d::ms,ds,h,e=>by
   unfold fzs at e
   cases e1:fzs ms with
   | none=>rw [e1] at e; cases e
   | some es =>
     rw [e1] at e
     cases e
     obtain ⟨⟨F,w⟩,h⟩:=h
     cases w with
     | fz w=>exact .cons w (zkK h e1)
 | _::_,.lst _::_,_,_,e=>by cases e
 | _::_,.dK _::_,_,_,e=>by cases e
 | _::_,.dT _::_,_,_,e=>by cases e
 | _::_,.lk _ _ _ _::_,_,_,e=>by cases e
 | _::_,.dA _ _::_,_,_,e=>by cases e
 | _::_,.ob _ _ _::_,_,_,e=>by cases e
 | _::_,.bx _ _::_,_,_,e=>by cases e
 | [],_::_,_,h,_=>h.elim
 | _::_,[],_,h,_=>h.elim
theorem zpL {K:PySem.W.Frag}:SndN K (λxs H Q=>xs.length<=sizeLine/\∀ p o,H p=none->TupO xs o->Q (.ref p) (upd H p o)) zfo where
 run:=λG H xs ms Q ex ow q=>by
  unfold zfo at q
  split at q
  ·rename_i ds e
   have r:=zkK ow e
   obtain ⟨h1,q⟩:=ztK q
   exact ⟨by rw [r.length]; exact h1,λp o n t=>q _ _ (.tup n t r)⟩
  ·exact q.elim
 mono:=λa q q' h k=>by
  unfold zfo at *
  split at k
  ·exact znW (h _) k
  ·exact k.elim
theorem zpM {K:PySem.W.Frag}:SndN K (λxs H Q=>xs.length<=sizeLine/\∀ p,H p=none->Q (.ref p) (upd H p (.lst xs))) zcd where
 run:=λG H xs ms Q ex ow q=>by
  unfold zcd at q
  split at q
  ·rename_i ds e
   have r:=zkK ow e
   obtain ⟨h1,q⟩:=ztK q
   exact ⟨by rw [r.length]; exact h1,λp n=>q _ _ (.lst n r)⟩
  ·exact q.elim
 mono:=λa q q' h k=>by
  unfold zcd at *
  split at k
  ·exact znW (h _) k
  ·exact k.elim
def tTupF (t:TA):TE:=λσ H Q=>t σ H λxs H1=>xs.length<=sizeLine/\∀ p o,H1 p=none->TupO xs o->Q (.ref p) (upd H1 p o)
theorem zuE {X:Cx} {es:List Expr} {t:TA} {pos:Pos} {x1} (h:PA X es t):PE X (.Tuple es x1 pos) (tTupF t):=by
 refine ⟨λpins s σ H Q I hq => ?_⟩
 refine wpAny_Tuple_spliced (thn (h.run pos pins s σ H _ I hq) λus s1 ⟨xs,H1,I1,r,z,q⟩=>⟨by rw [← r.length]; exact z,?_⟩)
 obtain ⟨o,t,I'⟩:=zgM I1 z r
 exact ⟨.ref s1.heap.objs.size,_,I',rfl,q _ _ (I1.hok.fresh (yaw _)) t⟩
section
variable {y:Y} {es:List Expr} {wa:WA} {pos:Pos}
theorem zeq {k:Nat} (h:SA y es wa):SE y (.Tuple es k pos) (wN zfo wa) :=
 ⟨zbH (zuE h.run) (zr0 zpL h.mono),zkI (K:=y.X.K) zpL h.mono⟩
theorem zbl (h:SA y es wa):SE y (.List es pos) (wN zcd wa) :=
 ⟨zbH (pe_lst h.run) (zr0 zpM h.mono),zkI (K:=y.X.K) zpM h.mono⟩
def zuF:WE:=λe Q _=>Q (.dK []) e\/Q (.dT []) e
theorem zuG:SE y (.Dict [] [] pos) zuF where
 run:=⟨λpins s σ H Q I ⟨e,P,h0,q⟩=>by
  obtain ⟨G,g⟩:=h0.2.opn
  rcases q with q | q
  ·exact (pe_dnewK (X:=y.X)).run pins s σ H Q I λp hp=>q _ _ ⟨h0.1,(g.res _ _ _ (.dK hp .nil)).perm yae.symm⟩
  ·exact (pe_dnewT (X:=y.X)).run pins s σ H Q I λp hp=>q _ _ ⟨h0.1,(g.res _ _ _ (.dT hp .nil)).perm yae.symm⟩⟩
 mono:=λe Q Q' X X' hq hx q=>q.imp (hq _ _) (hq _ _)
end
section
variable {y:Y} {e:Expr} {es:List Expr} {wa:WA} {p pos:Pos} {x:Str} {op:OPN} {r:List V->Hp->VK->Prop}
theorem zr5 {id:String} (hc:CallR y.X (.builtin id) r) (hs:SndN y.X.K r op) (hg:Gl y.X x) (hm:y.X.mg x=none) (hv:bootBuiltins x=some (.builtin id)) (ha:SA y (e::es) wa)
 (hn:x ≠ "__name__") (hdb:(x==("__debug__" : Str))=false) (he:starEach (e::es) y.X.env=(false,eval e y.X.env)::starEach es y.X.env) (hpl:(backTo pos (starEach es y.X.env)).any (·.1)=false) :
 SE y (.Call (.Name x p) (e::es) [] pos) (wN op wa) :=
 ⟨zbH (pe_callB hc hg hm hv ha.run hn hdb he hpl) (zr0 hs ha.mono),zkI hs ha.mono⟩
theorem zpN {T:String} (hc:CallR y.X (.type T) r) (hs:SndN y.X.K r op) (hg:Gl y.X x) (hm:y.X.mg x=none) (hv:bootBuiltins x=some (.type T)) (ha:SA y (e::es) wa)
 (hn:x ≠ "__name__") (hdb:(x==("__debug__" : Str))=false) (he:starEach (e::es) y.X.env=(false,eval e y.X.env)::starEach es y.X.env) (hpl:(backTo pos (starEach es y.X.env)).any (·.1)=false) :
 SE y (.Call (.Name x p) (e::es) [] pos) (wN op wa) :=
 ⟨zbH (pe_callTy hc hg hm hv ha.run hn hdb he hpl) (zr0 hs ha.mono),zkI hs ha.mono⟩
end
abbrev WP:=En->(Option Int->En->Prop)->XQ->Prop
def pNo:WP:=λe Q _=>Q none e
def pInt (w:WE):WP:=λe Q X=>w e (λm e'=>match m with
 | .fz (.int i)=>Q (some i) e'
 | _=>False) X
def liftP (y:Y) (w:WP):TO:=λσ H Q=>∃ e P,Ok y.X.K H σ e P/\w e (λo e'=>∀ H',Ok y.X.K H' σ e' P->Q o H') (zkH y σ P)
structure SP' (y:Y) (e:Option Expr) (w:WP):Prop where
 run:PO y.X e (liftP y w)
 mono:∀ e Q Q' X X',(∀ m e,Q m e->Q' m e)->(∀ x e,X x e->X' x e)->w e Q X->w e Q' X'
theorem ztL {X:Cx} {e:Option Expr} {t t':TO} (h:PO X e t) (i:∀ σ H Q,t' σ H Q->t σ H Q):PO X e t':=⟨λpins s σ H Q I q=>h.run pins s σ H Q I (i _ _ _ q)⟩
theorem ok_int {K:PySem.W.Frag} {H:Hp} {σ:L2.St} {e:En} {P:List (V×M)} {v:V} {b:Int} (h:Ok K H σ e ((v,.fz (.int b))::P)):v=.int b:=by
 obtain ⟨G,g⟩:=h.2.opn
 obtain ⟨F,w⟩:=g.own (v,.fz (.int b)) (yag _ yaa)
 cases w with
 | fz w =>
   cases w
   rfl
theorem zcp {y:Y}:SP' y none pNo:=⟨ztL po_none λσ H Q ⟨e,P,h0,q⟩=>q H h0,λe Q Q' X X' hq hx q=>hq _ _ q⟩
theorem zbm {y:Y} {e:Expr} {w:WE} (h:SE y e w):SP' y (some e) (pInt w) where
 run:=ztL (po_some h.run) λσ H Q ⟨e,P,h0,q⟩=>⟨e,P,h0,h.mono _ _ _ _ _ (λm e' q v H' o=>by
  split at q
  ·exact ⟨_,ok_int o,q H' o.pop⟩
  ·exact q.elim) (λ_ _ q=>q) q⟩
 mono:=λe Q Q' X X' hq hx q=>h.mono _ _ _ _ _ (λm e' q=>by
  split at q
  ·exact hq _ _ q
  ·exact q.elim) hx q
abbrev OPS:=M->Option Int->Option Int->(M->Prop)->Prop
structure SndS (K:PySem.W.Frag) (r:V->Option Int->Option Int->Hp->VK->Prop) (op:OPS):Prop where
 run:∀ G H x mx F lo hi (Q:VK),Ex G H->Own K G H x mx F->op mx lo hi (λm=>∀ v H',zhj K G H m v H'->Q v H')->r x lo hi H Q
 mono:∀ a lo hi (q q':M->Prop),(∀ m,q m->q' m)->op a lo hi q->op a lo hi q'
def wSl (op:OPS) (o:WO) (lo hi:WP):WE:=λe Q X=>o e (λa e1=>lo e1 (λl e2=>hi e2 (λh e3=>zbB a e3 λma=>op ma l h λm=>Q m e3) X) X) X
theorem zr6 {y:Y} {e:Expr} {lo hi:Option Expr} {p2 pos:Pos} {o:WO} {wl wh:WP} {op:OPS} {r:V->Option Int->Option Int->Hp->VK->Prop} (hr:SlR y.X r) (hs:SndS y.X.K r op) (he:SO y e o) (hl:SP' y lo wl) (hh:SP' y hi wh) :
 SE y (.Subscript e (.Slice lo hi none p2) pos) (wSl op o wl wh) where
 run:=zbH (pe_slice hr he.run hl.run hh.run) λσ H Q ⟨e,P,h0,q⟩=>⟨e,P,h0,he.mono _ _ _ _ _ (λa e1 q v H1 o1=>by
  obtain ⟨o1,p1⟩:=o1
  refine ⟨e1,pend a v++P,o1,hl.mono _ _ _ _ _ (λl e2 q H2 o2 => ?_) (λ_ _ q=>zdo q) q⟩
  refine ⟨e2,pend a v++P,o2,hh.mono _ _ _ _ _ (λh e3 q H3 o3 => ?_) (λ_ _ q=>zdo q) q⟩
  obtain ⟨ma,m1,q⟩:=zdG o3 p1 q
  obtain ⟨G,g⟩:=o3.2.opn
  obtain ⟨F1,w1⟩:=g.ownX _ m1
  exact hs.run G H3 v ma F1 l h Q g.ex w1 (hs.mono _ _ _ _ _ (λm q v' H' r'=>q v' H' (g.fin o3.1 r')) q)) (λ_ _ q=>q) q⟩
 mono:=λe Q Q' X X' hq hx q=>he.mono _ _ _ _ _ (λa e1 q=>hl.mono _ _ _ _ _ (λl e2 q=>hh.mono _ _ _ _ _ (λh e3 q=>zaX (λma q=>hs.mono _ _ _ _ _ (λm q=>hq _ _ q) q) q) hx q) hx q) hx q
def isTp:Expr->Bool
 | .Tuple _ _ _=>true
 | _=>false
def Gvn (K:PySem.W.Frag) (tp:Bool) (H':Hp) (x:V) (d:D) (L:List (V×M)):Prop :=
 Sep K H' ((x,.fz d)::L)\/(tp=true/\∃ p vs es,x=.ref p/\d=.tup es/\SqT K H' p vs/\vs.length=es.length/\Sep K H' (vs.zip (es.map M.fz)++L))
structure Walks (K:PySem.W.Frag) (tp:Bool) (J:It) (ds:List D) (R:List (V×M)):Prop where
 go:∀ i H L d,Sep K H (R++L)->ds[i]?=some d->J.go i H/\∀ x H',J.yld i H x H'->Gvn K tp H' x d (R++L)
 stop:∀ i H L,Sep K H (R++L)->ds.length<=i->J.stop i H
def zuH (y:Y) (tg:Expr) (w:WI):TI:=λσ H R'=>∃ e P,Ok y.X.K H σ e P/\w e (λds e'=>∀ J H1 R,Walks y.X.K (isTp tg) J ds R->Ok y.X.K H1 σ e' (R++P)->R' J H1) (zkH y σ P)
structure SI (y:Y) (tg iter:Expr) (w:WI):Prop where
 run:PI y.X tg iter (zuH y tg w)
 mono:zoK w
inductive Tg where
 | nm (i:Nat) | tp (ts:List Tg)
mutual
def Tg.asg:Tg->M->En->Option En
 | .nm i,m,e=>some (e.set i (some m))
 | .tp ts,m,e=>match m.d with
   | .tup ds=>Tg.asgs ts ds e
   | _=>none
def Tg.asgs:List Tg->List D->En->Option En
 | [],[],e=>some e
 | t::ts,d::ds,e=>(t.asg (.fz d) e).bind λe'=>Tg.asgs ts ds e'
 | _,_,_=>none
end
mutual
def Tg.slots:Tg->List Nat
 | .nm i=>[i]
 | .tp ts=>Tg.slotss ts
def Tg.slotss:List Tg->List Nat
 | []=>[]
 | t::ts=>t.slots++Tg.slotss ts
end
mutual
def Tg.tg (K:PySem.W.Frag):Tg->TG
 | .nm i=>gName i
 | .tp ts=>gTup K ts.length (Tg.tgs K ts)
def Tg.tgs (K:PySem.W.Frag):List Tg->TGs
 | []=>gNil
 | t::ts=>gCons (t.tg K) (Tg.tgs K ts)
end
theorem ok_tup {K:PySem.W.Frag} {H:Hp} {σ:L2.St} {e:En} {P:List (V×M)} {v:V} {m:M} {ds:List D} (h:Ok K H σ e ((v,m)::P)) (em:m.d=.tup ds):∃ a vs,v=.ref a/\SqT K H a vs/\vs.length=ds.length/\Ok K H σ e (vs.zip (ds.map M.fz)++P):=by
 obtain ⟨F,nd,q⟩:=h.2
 obtain ⟨F',pm,q'⟩:=q.perm yae
 have nd':=pm.nodup nd
 cases q' with
 | cons w r =>
   rename_i F1 F2
   cases w with
   | fz w =>
     have em:_=D.tup ds:=em
     subst em
     cases w with
     | tup hs rs =>
       rename_i a vs
       refine ⟨a,vs,rfl,(hs.mono znR).sqT,rs.length,h.1,?_⟩
       have build:∀ {vs:List V} {ds:List D},Reps K (hid H F) vs ds->Helds K (hid H F) H (vs.zip (ds.map M.fz)) []:=by
        intro vs ds rs
        induction vs generalizing ds with
        | nil =>
          cases rs
          exact .nil
        | cons v vs ih =>
          cases rs with
          | cons r rs=>exact .cons (F1:=[]) (F2:=[]) (.fz r) (ih rs)
       have hF:hid H F=hid H F2:=zlF λa=>pm.mem_iff
       have b:=build rs
       have t:Helds K (hid H F2) H (vs.zip (ds.map M.fz)++(prs σ e++P)) F2:=by
        rw [← hF]
        exact b.append r
       have t:Sep K H (vs.zip (ds.map M.fz)++(prs σ e++P)):=⟨F2,nd',t⟩
       refine t.perm ?_
       rw [← yah,← yah]
       exact yaz.append_right _
   | lst _ _=>cases em
   | dK _ _=>cases em
   | dT _ _=>cases em
   | lk _ _=>cases em
   | bx _ _ _ _=>cases em
   | dq _=>cases em
   | dA _ _=>cases em
   | ob _ _=>cases em
def But (ss:List Nat) (σ σ':L2.St):Prop:=σ'.length=σ.length/\∀ i,i∉ss->σ'[i]?=σ[i]?
theorem But.refl (ss:List Nat) (σ:L2.St):But ss σ σ:=⟨rfl,λ_ _=>rfl⟩
theorem But.trans {a b:List Nat} {σ σ1 σ2:L2.St} (h:But a σ σ1) (h':But b σ1 σ2):But (a++b) σ σ2:=⟨h'.1.trans h.1,λi z=>(h'.2 i λw=>z (yag _ w)).trans (h.2 i λw=>z (yan _ w))⟩
theorem zfr {K:PySem.W.Frag} {H:Hp} {σ:L2.St} {e:En} {P:List (V×M)} {v:V} {m:M} (i:Nat) (h:Ok K H σ e ((v,m)::P)):Ok K H (σ.set i (some v)) (e.set i (some m)) P:=by
 by_cases z:i<e.length
 ·exact h.store z
 ·have z':e.length<=i:=by omega
  rw [ybs z',ybs (by rw [← h.1.length]; exact z')]
  exact h.pop
mutual
theorem Tg.ok {K:PySem.W.Frag}:∀ (t:Tg) {H:Hp} {σ:L2.St} {e e':En} {P:List (V×M)} {v:V} {m:M} {Q:L2.St->Hp->Prop},Ok K H σ e ((v,m)::P)->t.asg m e=some e'->(∀ σ',Ok K H σ' e' P->But t.slots σ σ'->Q σ' H)->t.tg K v σ H Q
 | .nm i,H,σ,e,e',P,v,m,Q,h,a,q=>by
   unfold Tg.asg at a
   cases a
   unfold Tg.tg
   refine q _ (zfr i h) ⟨by rw [ybn],λj z => ?_⟩
   unfold Tg.slots at z
   rw [yaB λw=>z (by simp [w])]
 | .tp ts,H,σ,e,e',P,v,m,Q,h,a,q=>by
   unfold Tg.asg at a
   split at a
   ·rename_i ds em
    obtain ⟨p,vs,rfl,hs,hl,o⟩:=ok_tup h em
    unfold Tg.tg
    have hn:ts.length=ds.length:=Tg.asgs_len ts a
    exact ⟨p,vs,rfl,hs,by rw [hl,hn],Tg.oks ts hl o a q⟩
   ·cases a
theorem Tg.oks {K:PySem.W.Frag}:∀ (ts:List Tg) {H:Hp} {σ:L2.St} {e e':En} {P:List (V×M)} {vs:List V} {ds:List D} {Q:L2.St->Hp->Prop},vs.length=ds.length->Ok K H σ e (vs.zip (ds.map M.fz)++P)->Tg.asgs ts ds e=some e'->(∀ σ',Ok K H σ' e' P->But (Tg.slotss ts) σ σ'->Q σ' H)->Tg.tgs K ts vs σ H Q
 | [],H,σ,e,e',P,vs,ds,Q,hl,h,a,q=>by
   cases ds with
   | nil =>
     cases vs with
     | nil =>
       unfold Tg.asgs at a
       cases a
       unfold Tg.tgs
       exact ⟨rfl,q _ h (But.refl _ _)⟩
     | cons v vs=>cases hl
   | cons d ds=>unfold Tg.asgs at a; cases a
 | t::ts,H,σ,e,e',P,vs,ds,Q,hl,h,a,q=>by
   cases ds with
   | nil=>unfold Tg.asgs at a; cases a
   | cons d ds =>
     cases vs with
     | nil=>cases hl
     | cons v vs =>
       unfold Tg.asgs at a
       obtain ⟨e1,a1,a2⟩:=yce.mp a
       unfold Tg.tgs
       refine ⟨v,vs,rfl,Tg.ok t (P:=vs.zip (ds.map M.fz)++P) h a1 λσ1 o1 b1 => ?_⟩
       refine Tg.oks ts (Nat.succ.inj hl) o1 a2 λσ2 o2 b2=>q σ2 o2 ?_
       unfold Tg.slotss
       exact b1.trans b2
theorem Tg.asgs_len:∀ (ts:List Tg) {ds:List D} {e e':En},Tg.asgs ts ds e=some e'->ts.length=ds.length
 | [],[],_,_,_=>rfl
 | [],_::_,_,_,h=>by unfold Tg.asgs at h; cases h
 | _::_,[],_,_,h=>by unfold Tg.asgs at h; cases h
 | t::ts,d::ds,e,e',h=>by
   unfold Tg.asgs at h
   obtain ⟨e1,_,h2⟩:=yce.mp h
   exact yaX (· + 1) (Tg.asgs_len ts h2)
end
def Tg.isTp:Tg->Bool
 | .tp _=>true
 | _=>false
theorem Tg.okG {K:PySem.W.Frag} (t:Tg) {tp:Bool} {H:Hp} {x:V} {d:D} {L:List (V×M)} {σ:L2.St} {e e':En} {P:List (V×M)} {Q:L2.St->Hp->Prop} (g:Gvn K tp H x d L) (al:Al σ e) (pm:L.Perm (prs σ e++P)) (htp:(tp && !t.isTp)=false)
 (a:t.asg (.fz d) e=some e') (q:∀ σ',Ok K H σ' e' P->But t.slots σ σ'->Q σ' H):t.tg K x σ H Q:=by
 rcases g with s | ⟨ht,p,vs,es,rfl,rfl,hs,hl,s⟩
 ·exact t.ok (P:=P) ⟨al,s.perm ((pm.cons _).trans yae.symm)⟩ a q
 ·cases t with
  | nm i =>
    rw [ht] at htp
    cases htp
  | tp ts =>
    unfold Tg.asg at a
    have a:Tg.asgs ts es e=some e':=a
    unfold Tg.tg
    refine ⟨p,vs,rfl,hs,by rw [hl,Tg.asgs_len ts a],Tg.oks ts (P:=P) hl ⟨al,s.perm ?_⟩ a q⟩
    refine (pm.append_left _).trans ?_
    rw [← yah,← yah]
    exact yaz.append_right _
def Kept (κ:List (Nat×V)) (σ:L2.St):Prop:=∀ p∈κ,σ[p.1]?=some (some p.2)
def lend (y:Y) (κ:List (Nat×V)) (P:List (V×M)) (D:Ends):WEnds where
 nx:=λe'=>∀ σ' H',Kept κ σ'->Ok y.X.K H' σ' e' P->D.nx σ' H'
 rt:=λm e'=>∀ σ' v H',Kept κ σ'->Ok y.X.K H' σ' e' ((v,m)::P)->D.rt v H'
 bk:=λe'=>∀ σ' H',Kept κ σ'->Ok y.X.K H' σ' e' P->D.bk σ' H'
 ct:=λe'=>∀ σ' H',Kept κ σ'->Ok y.X.K H' σ' e' P->D.ct σ' H'
 ex:=λx e'=>∀ σ' c d H',Kept κ σ'->y.xr x c d H'->Ok y.X.K H' σ' e' P->y.W c d σ' H'
def zlI (y:Y) (κ:List (Nat×V)) (w:WS):TS:=λD σ H=>∃ e P,Kept κ σ/\Ok y.X.K H σ e P/\w (lend y κ P D) e
structure SS (y:Y) (κ:List (Nat×V)) (st:Stmt) (w:WS):Prop where
 run:PS y.X st (zlI y κ w)
 mono:zfn w
structure SSs (y:Y) (κ:List (Nat×V)) (st:List Stmt) (w:WS):Prop where
 run:PSs y.X st (zlI y κ w)
 mono:zfn w
def sNx:WS:=λE e=>E.nx e
def sSeq (a b:WS):WS:=λE e=>a { E with nx:=λe'=>b E e' } e
def zoN (w:WE):WS:=λE e=>w e (λ_ e1=>E.nx e1) E.ex
def sRet (o:WO):WS:=λE e=>o e (λa e1=>match a with
 | .vl m=>E.rt m e1
 | .pk i=>match e1[i]? with
   | some (some m)=>E.rt m (e1.set i none)
   | _=>False
 | .fd _ _ _=>False) E.ex
def sIf (t:WT) (a b:WS):WS:=λE e=>t e (λc e1=>if c=true then a E e1 else b E e1) E.ex
def sSet (i:Nat) (w:WE):WS:=λE e=>w e (λm e1=>E.nx (e1.set i (some m))) E.ex
def sAsg (t:Tg) (w:WE):WS:=λE e=>w e (λm e1=>match t.asg m e1 with
 | some e2=>E.nx e2
 | none=>False) E.ex
def zem (t:Tg) (b:WS) (E:WEnds):List D->En->Prop
 | [],e=>E.nx e
 | d::ds,e=>match t.asg (.fz d) e with
   | some e1=>b { nx:=zem t b E ds,rt:=E.rt,bk:=E.nx,ct:=zem t b E ds,ex:=E.ex } e1
   | none=>False
def sFor (wi:WI) (t:Tg) (b:WS):WS:=λE e=>wi e (λds e1=>zem t b E ds e1) E.ex
def zlJ (t:WT) (b:WS):WS:=λE e=>∃ I:Nat->En->Prop,(∃ m,I m e)/\∀ m e,I m e ->
 t e (λc e1=>if c=true then b { nx:=λe'=>∃ m',m'<m/\I m' e',rt:=E.rt,bk:=E.nx,ct:=λe'=>∃ m',m'<m/\I m' e',ex:=E.ex } e1 else E.nx e1) E.ex
section
variable {y:Y} {κ:List (Nat×V)} {st:Stmt} {rest:List Stmt} {e:Expr} {w:WE} {a b:WS} {t:WT} {pos:Pos}
theorem zbr:SSs y κ [] sNx:=⟨zmW pss_nil λD σ H ⟨e,P,hk,h0,q⟩=>q σ H hk h0,λE E' e l q=>l.nx _ q⟩
theorem zkL (ha:zfn a) (hb:zfn b):zfn (sSeq a b):=λE E' e l q=>ha { E with nx:=λe'=>b E e' } { E' with nx:=λe'=>b E' e' } e ⟨λe q=>hb E E' e l q,l.rt,l.bk,l.ct,l.ex⟩ q
theorem zr7 (h1:SS y κ st a) (h2:SSs y κ rest b):SSs y κ (st::rest) (sSeq a b) where
 run:=zmW (pss_cons h1.run h2.run) λD σ H ⟨e,P,hk,h0,q⟩=>⟨e,P,hk,h0,h1.mono { lend y κ P D with nx:=λe'=>b (lend y κ P D) e' } (lend y κ P { D with nx:=zlI y κ b D }) _ ⟨λe' q σ' H' hk' o=>⟨e',P,hk',o,q⟩,λ_ _ q=>q,λ_ q=>q,λ_ q=>q,λ_ _ q=>q⟩ q⟩
 mono:=zkL h1.mono h2.mono
theorem zal (h1:SS y κ st a):SSs y κ [st] a:=⟨zmW (pss_one h1.run) λD σ H q=>q,h1.mono⟩
theorem zuI (h:SE y e w) (hs:swapsWith e none pos.line y.X.env=pure false):SS y κ (.Expr e pos) (zoN w) where
 run:=zdW (ps_expr h.run hs) λD σ H ⟨e,P,hk,h0,q⟩=>⟨e,P,h0,h.mono _ _ _ _ _ (λm e1 q v H1 o=>q σ H1 hk o.pop) (λ_ _ q c d H' r o=>q σ c d H' hk r o) q⟩
 mono:=λE E' e l q=>h.mono _ _ _ _ _ (λ_ _ q=>l.nx _ q) l.ex q
theorem ss_ret {o:WO} (h:SO y e o):SS y κ (.Return (some e) pos) (sRet o) where
 run:=zdW (ps_ret h.run) λD σ H ⟨e,P,hk,h0,q⟩=>⟨e,P,h0,h.mono _ _ _ _ _ (λa e1 q v H1 o=>by
  obtain ⟨o,p⟩:=o
  cases a with
  | fd _ _ _=>exact q.elim
  | vl m=>exact q σ v H1 hk o
  | pk i =>
    dsimp only at q
    split at q
    ·rename_i m e1
     obtain ⟨v',e2,o'⟩:=Ok.take (P:=P) o e1
     have e3:some (some v)=some (some v'):=p.symm.trans e2
     cases e3
     exact q σ v H1 hk o'
    ·exact q.elim) (λ_ _ q c d H' r o=>q σ c d H' hk r o) q⟩
 mono:=λE E' e l q=>h.mono _ _ _ _ _ (λa e1 q=>by
  cases a with
  | fd _ _ _=>exact q.elim
  | vl m=>exact l.rt _ _ q
  | pk i =>
    dsimp only at q ⊢
    split at q
    ·exact l.rt _ _ q
    ·exact q.elim) l.ex q
theorem zr8 (h:zek t) (ha:zfn a) (hb:zfn b):zfn (sIf t a b):=λE E' e l q=>h _ _ _ _ _ (λc e1 q=>by
 cases c with
 | true=>exact iteT (ha _ _ _ l (by simpa using q))
 | false=>exact iteF (hb _ _ _ l (by simpa using q))) l.ex q
theorem ss_if {c:Expr} {xs ys:List Stmt} (h:ST y c t) (ha:SSs y κ xs a) (hb:SSs y κ ys b):SS y κ (.If c xs ys pos) (sIf t a b) where
 run:=zdW (ps_if h.run ha.run hb.run) λD σ H ⟨e,P,hk,h0,q⟩=>⟨e,P,h0,h.mono _ _ _ _ _ (λc e1 q H1 o=>by
  cases c with
  | true=>exact iteT ⟨e1,P,hk,o,by simpa using q⟩
  | false=>exact iteF ⟨e1,P,hk,o,by simpa using q⟩) (λ_ _ q c d H' r o=>q σ c d H' hk r o) q⟩
 mono:=zr8 h.mono ha.mono hb.mono
theorem Kept.but {ss:List Nat} {σ σ':L2.St} (h:Kept κ σ) (b:But ss σ σ') (hs:∀ p∈κ,p.1∉ss):Kept κ σ':=λp z=>(b.2 p.1 (hs p z)).trans (h p z)
theorem Kept.set {σ:L2.St} {i:Nat} {x:Option V} (h:Kept κ σ) (hi:∀ p∈κ,p.1≠i):Kept κ (σ.set i x):=λp z=>by
 rw [yaB (ycB (hi p z))]
 exact h p z
theorem ss_set {i:Nat} {x:Str} {pos':Pos} (hN:y.X.N.Nodup) (hi:y.X.N[i]?=some x) (hx:Loc y.X.env.scope x) (h:SE y e w) (hs:swapsWith e (some (.Name x pos')) pos.line y.X.env=pure false) (hf:y.X.fn x=true\/y.X.env.scope.names.lookup x=some .local)
 (hκ:∀ p∈κ,p.1≠i):SS y κ (.Assign [.Name x pos'] e pos) (sSet i w) where
 run:=zdW (ps_set hN hi hx h.run hs hf) λD σ H ⟨e,P,hk,h0,q⟩=>⟨e,P,h0,h.mono _ _ _ _ _ (λm e1 q v H1 o=>q _ H1 (hk.set hκ) (zfr i o)) (λ_ _ q c d H' r o=>q σ c d H' hk r o) q⟩
 mono:=λE E' e l q=>h.mono _ _ _ _ _ (λ_ _ q=>l.nx _ q) l.ex q
theorem zpO {tg:Tg} (h:zcA w):zfn (sAsg tg w):=λE E' e l q=>h _ _ _ _ _ (λ_ _ q=>by
 split at q
 ·exact l.nx _ q
 ·exact q.elim) l.ex q
theorem ss_asg {tg:Tg} {target:Expr} (hg:PG y.X target (tg.tg y.X.K)) (h:SE y e w) (hs:swapsWithSole [target] e pos.line y.X.env=pure false) (hw:swappedStores [target] e y.X.env=pure none)
 (h1:(assignEach [target] y.X.env).map (·.2)=[assign target y.X.env]) (hκ:∀ p∈κ,p.1∉tg.slots):SS y κ (.Assign [target] e pos) (sAsg tg w) where
 run:=zdW (ps_asg h.run hg hs hw h1) λD σ H ⟨e,P,hk,h0,q⟩=>⟨e,P,h0,h.mono _ _ _ _ _ (λm e1 q v H1 o=>by
  split at q
  ·rename_i e2 a
   exact tg.ok o a λσ' o' bt=>q σ' H1 (hk.but bt hκ) o'
  ·exact q.elim) (λ_ _ q c d H' r o=>q σ c d H' hk r o) q⟩
 mono:=zpO h.mono
theorem zhm {tg:Tg} (hb:zfn b) {E E':WEnds} (l:E.Le E'):∀ (ds:List D) (e:En),zem tg b E ds e->zem tg b E' ds e
 | [],e,q=>l.nx _ q
 | d::ds,e,q=>by
   unfold zem at *
   split at q
   ·rename_i e1 a
    exact hb { nx:=zem tg b E ds,rt:=E.rt,bk:=E.nx,ct:=zem tg b E ds,ex:=E.ex } { nx:=zem tg b E' ds,rt:=E'.rt,bk:=E'.nx,ct:=zem tg b E' ds,ex:=E'.ex } _
     ⟨λe q=>zhm hb l ds e q,l.rt,l.nx,λe q=>zhm hb l ds e q,l.ex⟩ q
   ·exact q.elim
theorem ss_for {tg:Tg} {target iter:Expr} {body:List Stmt} {wi:WI} (hp:PassesOwn (model y.X.prog y.X.w) y.X.A y.X.env y.X.xe) (hc:y.X.calm=true) (hi:SI y target iter wi) (hg:PG y.X target (tg.tg y.X.K)) (hb:SSs y κ body b)
 (hs:∀ x,foldedSetIterable iter y.X.env x=pure x) (hκ:∀ p∈κ,p.1∉tg.slots) (htp:(isTp target && !tg.isTp)=false):SS y κ (.For target iter body [] pos) (sFor wi tg b) where
 run:=zdW (ps_for hp hc hi.run hg hb.run hs) λD σ H ⟨e,P,hk,h0,q⟩=>⟨e,P,h0,hi.mono _ _ _ _ _ (λds e1 q J H1 R wk o=>by
  refine ⟨λi m σ' H'=>m=ds.length-i/\i<=ds.length/\∃ e',Kept κ σ'/\Ok y.X.K H' σ' e' (R++P)/\zem tg b (lend y κ P D) (ds.drop i) e',⟨ds.length,by simp,ya4 _,e1,hk,o,q⟩,?_⟩
  rintro i m σ' H' ⟨rfl,hi,e',hk',o',q'⟩
  have hsep:Sep y.X.K H' (R++(prs σ' e'++P)):=o'.2.perm (by
   rw [← yah,← yah]
   exact yaz.append_right _)
  by_cases hlt:i<ds.length
  ·rw [ybe hlt] at q'
   obtain ⟨g1,g2⟩:=wk.go i H' _ ds[i] hsep (yad hlt)
   unfold zem at q'
   split at q'
   ·rename_i e2 ea
    refine .inr ⟨g1,λσ2 H2=>∃ e3,Kept κ σ2/\Ok y.X.K H2 σ2 e3 (R++P)/\zem tg b (lend y κ P D) (ds.drop (i+1)) e3,λσ2 H2 n => ?_,λx H2 yl => ?_⟩
    ·exact ⟨ds.length-(i+1),by omega,rfl,hlt,n⟩
    ·have sx:=g2 x H2 yl
     refine tg.okG (P:=R++P) sx o'.1 (by
      rw [← yah,← yah]
      exact yaz.append_right _) htp ea λσ3 o3 bt => ?_
     refine ⟨e2,R++P,hk'.but bt hκ,o3,hb.mono { nx:=zem tg b (lend y κ P D) (ds.drop (i+1)),rt:=(lend y κ P D).rt,bk:=(lend y κ P D).nx,ct:=zem tg b (lend y κ P D) (ds.drop (i+1)),ex:=(lend y κ P D).ex } _ _ ⟨λe4 q σ4 H4 k4 o4=>⟨e4,k4,o4,q⟩,λm e4 q σ4 v H4 k4 o4=>q σ4 v H4 k4 (Ok.pops (P:=R) (o4.perm yae.symm)),λe4 q σ4 H4 k4 o4=>q σ4 H4 k4 o4.pops,λe4 q σ4 H4 k4 o4=>⟨e4,k4,o4,q⟩,λx e4 q σ4 c d H4 k4 r o4=>q σ4 c d H4 k4 r o4.pops⟩ q'⟩
   ·exact q'.elim
  ·have e0:i=ds.length:=by omega
   subst e0
   rw [ybU] at q'
   exact .inl ⟨wk.stop _ H' _ hsep (yaw _),q' σ' H' hk' o'.pops⟩) (λ_ _ q c d H' r o=>q σ c d H' hk r o) q⟩
 mono:=λE E' e l q=>hi.mono _ _ _ _ _ (λds e1 q=>zhm hb.mono l ds e1 q) l.ex q
theorem zr9 {c:Expr} {body:List Stmt} (hp:PassesOwn (model y.X.prog y.X.w) y.X.A y.X.env y.X.xe) (h:ST y c t) (hb:SSs y κ body b):SS y κ (.While c body [] pos) (zlJ t b) where
 run:=zdW (ps_while hp h.run hb.run) λD σ H ⟨e,P,hk,h0,q⟩=>by
  obtain ⟨I,⟨m0,i0⟩,turn⟩:=q
  refine ⟨λm σ' H'=>∃ e',Kept κ σ'/\Ok y.X.K H' σ' e' P/\I m e',⟨m0,e,hk,h0,i0⟩,?_⟩
  rintro m σ' H' ⟨e',hk',o',i'⟩
  refine ⟨e',P,o',h.mono _ _ _ _ _ (λc e1 q H1 o1 => ?_) (λ_ _ q c d H' r o=>q σ' c d H' hk' r o) (turn m e' i')⟩
  cases c with
  | true =>
    rw [yaM rfl] at q
    refine iteT ⟨λσ2 H2=>∃ m',m'<m/\∃ e2,Kept κ σ2/\Ok y.X.K H2 σ2 e2 P/\I m' e2,λσ2 H2 ⟨m',hm,n⟩=>⟨m',hm,n⟩,?_⟩
    exact ⟨e1,P,hk',o1,hb.mono { nx:=λe'=>∃ m',m'<m/\I m' e',rt:=(lend y κ P D).rt,bk:=(lend y κ P D).nx,ct:=λe'=>∃ m',m'<m/\I m' e',ex:=(lend y κ P D).ex } _ _ ⟨λe2 ⟨m',hm,i2⟩ σ2 H2 k2 o2=>⟨m',hm,e2,k2,o2,i2⟩,λ_ _ q=>q,λ_ q=>q,λe2 ⟨m',hm,i2⟩ σ2 H2 k2 o2=>⟨m',hm,e2,k2,o2,i2⟩,λ_ _ q=>q⟩ q⟩
  | false =>
    rw [yaH yat] at q
    exact iteF (q σ' H1 hk' o1)
 mono:=λE E' e l ⟨I,i0,turn⟩=>⟨I,i0,λm e im=>h.mono _ _ _ _ _ (λc e1 q=>by
  cases c with
  | true =>
    rw [yaM rfl] at q
    exact iteT (hb.mono { nx:=λe'=>∃ m',m'<m/\I m' e',rt:=E.rt,bk:=E.nx,ct:=λe'=>∃ m',m'<m/\I m' e',ex:=E.ex } { nx:=λe'=>∃ m',m'<m/\I m' e',rt:=E'.rt,bk:=E'.nx,ct:=λe'=>∃ m',m'<m/\I m' e',ex:=E'.ex } _ ⟨λ_ q=>q,l.rt,l.nx,λ_ q=>q,l.ex⟩ q)
  | false=>exact iteF (l.nx _ (by simpa using q))) l.ex (turn m e im)⟩
end
def zaO (e:En):List Nat->En
 | []=>e
 | i::is=>(zaO e is).set i none
def za1 (e0:En):List Nat->En->En
 | [],e=>e
 | i::is,e=>(za1 e0 is e).set i (e0.getD i none)
def noX:XQ:=λ_ _=>False
def lcGo (t:Tg) (tt:WT) (te:WE) (own:List Nat):List D->List D->En->(List D->En->Prop)->Prop
 | [],acc,e,k=>k acc e
 | d::ds,acc,e,k=>match t.asg (.fz d) e with
   | some e1=>tt e1 (λb e2=>if b=true then te e2 (λm e3=>lcGo t tt te own ds (acc++[m.d]) (zaO e3 own) k) noX else lcGo t tt te own ds acc (zaO e2 own) k) noX
   | none=>False
def wLc (wi:WI) (t:Tg) (tt:WT) (te:WE) (own:List Nat):WE:=λe Q X=>wi e (λds e1=>ds.length<=sizeLine/\lcGo t tt te own ds [] (zaO e1 own) λacc e2=>Q (.lst acc) (za1 e1 own e2)) X
def zdp:WT:=λe Q _=>Q true e
theorem ziR {t:Tg} {tt:WT} {te:WE} {own:List Nat} (ht:zek tt) (he:zcA te):∀ (ds acc:List D) (e:En) (k k':List D->En->Prop),(∀ a e,k a e->k' a e)->lcGo t tt te own ds acc e k->lcGo t tt te own ds acc e k'
 | [],acc,e,k,k',h,q=>h _ _ q
 | d::ds,acc,e,k,k',h,q=>by
   unfold lcGo at *
   split at q
   ·refine ht _ _ _ _ _ (λb e2 q => ?_) (λ_ _ q=>q) q
    cases b with
    | true =>
      rw [yaM rfl] at q ⊢
      exact he _ _ _ _ _ (λm e3 q=>ziR ht he _ _ _ _ _ h q) (λ_ _ q=>q) q
    | false =>
      rw [yaH yat] at q ⊢
      exact ziR ht he _ _ _ _ _ h q
   ·exact q.elim
theorem zkM {wi:WI} {t:Tg} {tt:WT} {te:WE} {own:List Nat} (hi:zoK wi) (ht:zek tt) (he:zcA te):zcA (wLc wi t tt te own):=λe Q Q' X X' hq hx q =>
 hi _ _ _ _ _ (λds e1 q=>⟨q.1,ziR ht he _ _ _ _ _ (λ_ _ q=>hq _ _ q) q.2⟩) hx q
structure STs (y:Y) (ifs:List Expr) (w:WT):Prop where
 run:PTs y.X ifs (zpH y w)
 mono:zek w
theorem zpP {X:Cx} {e:List Expr} {t t':TT} (h:PTs X e t) (i:∀ σ H Q,t' σ H Q->t σ H Q):PTs X e t':=⟨λpins s σ H Q I q=>h.run pins s σ H Q I (i _ _ _ q)⟩
theorem zcR {y:Y}:STs y [] zdp:=⟨zpP pts_nil λσ H Q ⟨e,P,h0,q⟩=>q H h0,λ_ _ _ _ _ hq _ q=>hq _ _ q⟩
theorem zmX {y:Y} {c:Expr} {w:WT} (h:ST y c w):STs y [c] w:=⟨zpP (pts_one h.run) λσ H Q q=>q,h.mono⟩
abbrev Y.blk (y:Y) (s:Shared) (H:Hp) (scope:Scope) (C:Addr) (cl:List (Str×Addr)) (fp:List Addr):Y:=⟨y.X.blk s H scope (compEnvC scope cl C y.X.env) fp,y.xr,λ_ _ _ _=>False⟩
theorem zix {own:List Nat} {σ σ':L2.St}:∀ {vs:List Nat},But own σ σ'->(∀ i∈own,i∈vs)->wipe σ' vs=wipe σ vs:=λ{vs} b hs=>by
 have key:∀ (vs:List Nat) (τ:L2.St) (j:Nat),(wipe τ vs)[j]?=if j∈vs/\j<τ.length then some none else τ[j]?:=by
  intro vs τ j
  induction vs with
  | nil=>simp [wipe]
  | cons v vs ih =>
    unfold wipe
    by_cases e:v=j
    ·subst e
     by_cases l:v<τ.length
     ·rw [yaO (by rw [wipe_length]; exact l),yaM ⟨by simp,l⟩]
     ·rw [yaY (by rw [ybn,wipe_length]; omega),yaH λz=>l z.2,yaY (by omega)]
    ·rw [yaB e,ih]
     have:(j∈v::vs)↔j∈vs:=by simp [ycB e]
     simp only [this]
 apply ybm
 intro j
 rw [key,key,b.1]
 by_cases z:j∈vs
 ·by_cases l:j<σ.length
  ·rw [yaM ⟨z,l⟩,yaM ⟨z,l⟩]
  ·rw [yaH λw=>l w.2,yaH λw=>l w.2,yaY (by rw [b.1]; omega),yaY (by omega)]
 ·rw [yaH λw=>z w.1,yaH λw=>z w.1,b.2 j λw=>z (hs j w)]
section
variable {K:PySem.W.Frag} {H:Hp} {σ:L2.St} {e:En} {P:List (V×M)}
theorem Ok.wiped (h:Ok K H σ e P):∀ own:List Nat,Ok K H (wipe σ own) (zaO e own) P
 | []=>h
 | i::is=>(Ok.wiped h is).forget i none
theorem Ok.hide (h:Ok K H σ e P):∀ own:List Nat,∃ R:List (V×M),Ok K H (wipe σ own) (zaO e own) (R++P)/\∀ H' e' P',e'.length=e.length->Ok K H' (wipe σ own) e' (R++P')->Ok K H' σ (za1 e own e') P'
 | []=>⟨[],h,λH' e' P' _ o=>o⟩
 | i::is=>by
   obtain ⟨R,o,back⟩:=Ok.hide h is
   by_cases hm:∃ m,(zaO e is)[i]?=some (some m)
   ·obtain ⟨m,hm⟩:=hm
    obtain ⟨v,hv,o1⟩:=o.take hm
    have o2:Ok K H (wipe σ (i::is)) (zaO e (i::is)) ((v,m)::(R++P)):=by
     have z:=Ok.forget o1 i none
     rw [ybD] at z
     exact z
    refine ⟨(v,m)::R,o2,λH' e' P' hl o' => ?_⟩
    have hi:i<(wipe σ is).length:=(yaf.mp hv).1
    have el:e'.length=σ.length:=by rw [hl,h.1.length]
    have o3:Ok K H' (wipe σ (i::is)) e' ((v,m)::(R++P')):=o'
    have o4:=o3.store (by rw [el]; rw [wipe_length] at hi; exact hi)
    have es:(wipe σ (i::is)).set i (some v)=wipe σ is:=by
     show ((wipe σ is).set i none).set i (some v)=wipe σ is
     rw [ybD]
     apply ybm
     intro j
     by_cases z:i=j
     ·subst z
      rw [yaO hi,hv]
     ·rw [yaB z]
    rw [es] at o4
    have o5:=back H' _ P' (by rw [ybn,hl]) o4
    have em:e.getD i none=some m:=by
     have hw:∀ (is:List Nat) (m:M),(zaO e is)[i]?=some (some m)->e[i]?=some (some m):=by
      intro is
      induction is with
      | nil=>exact λm z=>z
      | cons k is ih =>
        intro m z
        unfold zaO at z
        by_cases e1:k=i
        ·subst e1
         by_cases l:k<(zaO e is).length
         ·rw [yaO l] at z
          cases z
         ·rw [yaY (by rw [ybn]; omega)] at z
          cases z
        ·rw [yaB e1] at z
         exact ih m z
     rw [yay,hw is m hm]
     rfl
    have uw:za1 e (i::is) e'=za1 e is (e'.set i (some m)):=by
     show (za1 e is e').set i (e.getD i none)=_
     rw [em]
     have comm:∀ (is:List Nat) (x:En),i∉is->(za1 e is x).set i (some m)=za1 e is (x.set i (some m)):=by
      intro is
      induction is with
      | nil=>intro x _; rfl
      | cons k is ih =>
        intro x hn
        have hk:i≠k:=λz=>hn (by simp [z])
        unfold za1
        rw [ycf _ _ (ycB hk),ih x λz=>hn (yab _ z)]
     refine comm is e' λz => ?_
     have wn:∀ (is:List Nat),i∈is->∀ m,(zaO e is)[i]?≠some (some m):=by
      intro is
      induction is with
      | nil=>exact λz=>nomatch z
      | cons k is ih =>
        intro z m w
        unfold zaO at w
        by_cases e1:k=i
        ·subst e1
         by_cases l:k<(zaO e is).length
         ·rw [yaO l] at w
          cases w
         ·rw [yaY (by rw [ybn]; omega)] at w
          cases w
        ·rw [yaB e1] at w
         exact ih ((yao.mp z).resolve_left (ycB e1)) m w
     exact wn is z m hm
    rw [uw]
    exact o5
   ·have o2:Ok K H (wipe σ (i::is)) (zaO e (i::is)) (R++P):=o.forget i none
    refine ⟨R,o2,λH' e' P' hl o' => ?_⟩
    have o3:=Ok.forget o' i ((wipe σ is).getD i none)
    have es:(wipe σ (i::is)).set i ((wipe σ is).getD i none)=wipe σ is:=by
     show ((wipe σ is).set i none).set i ((wipe σ is).getD i none)=wipe σ is
     rw [ybD]
     apply ybm
     intro j
     by_cases z:i=j
     ·subst z
      by_cases l:i<(wipe σ is).length
      ·rw [yaO l,yay,yad l]
       rfl
      ·rw [ybs (by omega)]
     ·rw [yaB z]
    rw [es] at o3
    have o4:=back H' _ P' (by rw [ybn,hl]) o3
    by_cases him:i∈is
    ·-- the place is one of the others,too: it is set back by them
     have dup:∀ (is:List Nat) (x:En),i∈is->za1 e is (x.set i none)=za1 e is x:=by
      intro is
      induction is with
      | nil=>exact λx z=>nomatch z
      | cons k is ih =>
        intro x z
        unfold za1
        by_cases e1:i=k
        ·subst e1
         by_cases him:i∈is
         ·rw [ih x him]
         ·have comm:∀ (is:List Nat) (x:En),i∉is->za1 e is (x.set i none)=(za1 e is x).set i none:=by
           intro is
           induction is with
           | nil=>intro x _; rfl
           | cons k is ih =>
             intro x hn
             have hk:i≠k:=λz=>hn (by simp [z])
             unfold za1
             rw [ih x λz=>hn (yab _ z),ycf _ _ hk]
          rw [comm is x him,ybD]
        ·rw [ih x ((yao.mp z).resolve_left e1)]
     have same:∀ (is:List Nat) (x:En),i∈is->(za1 e is x).set i (e.getD i none)=za1 e is x:=by
      intro is
      induction is with
      | nil=>exact λx z=>nomatch z
      | cons k is ih =>
        intro x z
        unfold za1
        by_cases e1:i=k
        ·subst e1
         rw [ybD]
        ·rw [ycf _ _ (ycB e1),ih x ((yao.mp z).resolve_left e1)]
     show Ok K H' σ ((za1 e is e').set i (e.getD i none)) P'
     rw [same is e' him,← dup is e' him]
     exact o4
    ·have comm:∀ (is:List Nat) (x:En),i∉is->za1 e is (x.set i none)=(za1 e is x).set i none:=by
      intro is
      induction is with
      | nil=>intro x _; rfl
      | cons k is ih =>
        intro x hn
        have hk:i≠k:=λz=>hn (by simp [z])
        unfold za1
        rw [ih x λz=>hn (yab _ z),ycf _ _ hk]
     have eg:e.getD i none=none:=by
      cases q:e.getD i none with
      | none=>rfl
      | some m =>
        exfalso
        refine hm ⟨m,?_⟩
        have q':e[i]?=some (some m):=by
         rw [yay] at q
         cases r:e[i]? with
         | none=>rw [r] at q; cases q
         | some z=>rw [r] at q; exact yaX some q
        have wk:∀ is:List Nat,i∉is->(zaO e is)[i]?=e[i]?:=by
         intro is
         induction is with
         | nil=>intro _; rfl
         | cons k is ih =>
           intro hn
           unfold zaO
           rw [yaB λz=>hn (by simp [z])]
           exact ih λz=>hn (yab _ z)
        rw [wk is him]
        exact q'
     show Ok K H' σ ((za1 e is e').set i (e.getD i none)) P'
     rw [eg,← comm is e' him]
     exact o4
end
theorem zbQ (e:En):∀ own:List Nat,(zaO e own).length=e.length
 | []=>rfl
 | i::is=>by
   unfold zaO
   rw [ybn,zbQ e is]
theorem zhn {α:Type} (A R B:List α):(A++(R++B)).Perm (R++(A++B)):=by
 have e1:A++(R++B)=(A++R)++B:=(yah _ _ _).symm
 have e2:R++(A++B)=(R++A)++B:=(yah _ _ _).symm
 rw [e1,e2]
 exact yaz.append_right _
theorem zpQ {y:Y} {tge:Expr} {wi:WI} {t:Tg} {tt:WT} {te:WE} {own:List Nat} {σ:L2.St} {H:Hp} {Q:VK} (htp:(isTp tge && !t.isTp)=false) (hi:zoK wi) (ht:zek tt) (he:zcA te) (hs:∀ i∈t.slots,i∈own)
 (h:zgl y (wLc wi t tt te own) σ H Q):tLc (zuH y tge wi) (t.tg y.X.K) (zpH ⟨y.X,y.xr,λ_ _ _ _=>False⟩ tt) (zgl ⟨y.X,y.xr,λ_ _ _ _=>False⟩ te) own σ H Q:=by
 obtain ⟨e,P,h0,q⟩:=h
 refine ⟨e,P,h0,hi _ _ _ _ _ (λds e1 q J H1 R wk o dd hD => ?_) (λ_ _ q=>q) q⟩
 obtain ⟨hlen,q⟩:=q
 obtain ⟨G,g⟩:=o.2.opn
 have oD:Ok y.X.K (upd H1 dd (.lst [])) σ e1 ((.ref dd,.lst [])::(R++P)):=⟨o.1,(g.res _ _ _ (.lst hD .nil)).perm yae.symm⟩
 obtain ⟨S,oS,back⟩:=oD.hide own
 let Bd:=λ(i:Nat) (H':Hp)=>∃ (e':En) (acc:List D),e'.length=e1.length/\acc.length<=i/\Ok y.X.K H' (wipe σ own) e' (S++((.ref dd,.lst acc)::(R++P))) /\
  lcGo t tt te own (ds.drop i) acc e' λacc e2=>∀ v H',Ok y.X.K H' σ (za1 e1 own e2) ((v,.lst acc)::P)->Q v H'
 refine ⟨λi m H'=>m=ds.length-i/\i<=ds.length/\Bd i H',⟨ds.length,by simp,ya4 _,_,[],zbQ _ _,yaw _,oS,q⟩,?_⟩
 rintro i m H' ⟨rfl,hi,e',acc,el,al,o',q'⟩
 have hsep:Sep y.X.K H' (R++(prs (wipe σ own) e'++(S++((.ref dd,.lst acc)::P)))):=o'.2.perm (by
  have p1:(S++((V.ref dd,M.lst acc)::(R++P))).Perm (R++(S++((V.ref dd,M.lst acc)::P))):=by
   refine (yae (l₁:=S)).trans ?_
   refine List.Perm.trans ?_ ((yae (l₁:=S)).symm.append_left R)
   refine List.Perm.trans ?_ yae.symm
   refine List.Perm.cons _ ?_
   rw [← yah,← yah]
   exact yaz.append_right _
  exact (p1.append_left _).trans (zhn _ _ _))
 by_cases hlt:i<ds.length
 ·rw [ybe hlt] at q'
  obtain ⟨g1,g2⟩:=wk.go i H' _ ds[i] hsep (yad hlt)
  refine .inr ⟨g1,λH2=>Bd (i+1) H2,λH2 n=>⟨ds.length-(i+1),by omega,rfl,hlt,n⟩,λx H2 yl => ?_⟩
  have sx:=g2 x H2 yl
  unfold lcGo at q'
  split at q'
  ·rename_i e2 ea
   have pm:(R++(prs (wipe σ own) e'++(S++((V.ref dd,M.lst acc)::P)))).Perm (prs (wipe σ own) e'++(S++((V.ref dd,M.lst acc)::(R++P)))):=by
    have p1:(R++(S++((V.ref dd,M.lst acc)::P))).Perm (S++((V.ref dd,M.lst acc)::(R++P))):=by
     refine List.Perm.trans ?_ (yae (l₁:=S)).symm
     refine ((yae (l₁:=S)).append_left R).trans ?_
     refine yae.trans ?_
     refine List.Perm.cons _ ?_
     rw [← yah,← yah]
     exact yaz.append_right _
    exact List.Perm.trans (zhn _ _ _) (p1.append_left _)
   refine t.okG sx o'.1 pm htp ea λσ3 o3 bt => ?_
   have w3:wipe σ3 own=wipe (wipe σ own) own:=zix bt hs
   have ww:wipe (wipe σ own) own=wipe σ own:=zix (own:=own) ⟨wipe_length _ _,λj z=>by
    have k2:∀ vs:List Nat,j∉vs->(wipe σ vs)[j]?=σ[j]?:=by
     intro vs
     induction vs with
     | nil=>intro _; rfl
     | cons k vs ih =>
       intro hn
       unfold wipe
       rw [yaB λz=>hn (by simp [z])]
       exact ih λz=>hn (yab _ z)
    exact k2 own z⟩ λ_ z=>z
   refine ⟨w3.trans ww,?_⟩
   refine ⟨e2,_,o3,ht _ _ _ _ _ (λb e3 q H3 o4 => ?_) (λ_ _ q=>q.elim) q'⟩
   cases b with
   | true =>
     rw [yaM rfl] at q ⊢
     refine ⟨e3,_,o4,he _ _ _ _ _ (λm e4 q v H4 o5 => ?_) (λ_ _ q=>q.elim) q⟩
     have o6:Ok y.X.K H4 σ3 e4 ((.ref dd,.lst acc)::(v,.fz m.d)::(S++(R++P))):=(Ok.freeze o5).perm (by
      refine List.Perm.trans ?_ (List.Perm.swap _ _ _)
      exact List.Perm.cons _ yae)
     obtain ⟨G,p,F,ep,w,ex,oth,up,_,_⟩:=(o6.2.perm yae).mut rfl
     cases ep
     cases w with
     | lst hp rs =>
       refine ⟨_,hp,?_,e4.length |> λ_ => ?_⟩
       ·rw [rs.length]
        exact yb2 (Nat.lt_of_le_of_lt al hlt) hlen
       ·obtain ⟨F2,w2⟩:=oth (v,.fz m.d) (yag _ yaa)
        cases w2 with
        | fz w2 =>
          have z:=up _ _ (rs.append (.one w2))
          have o7:Ok y.X.K (upd H4 dd (.lst (_++[v]))) σ3 e4 ((.ref dd,.lst (acc++[m.d]))::(v,.fz m.d)::(S++(R++P))):=⟨o6.1,z.perm yae.symm⟩
          have o8:Ok y.X.K (upd H4 dd (.lst (_++[v]))) σ3 e4 (S++((.ref dd,.lst (acc++[m.d]))::(R++P))):=Ok.perm (Ok.pop (Ok.perm o7 (List.Perm.swap _ _ _))) yae.symm
          refine ⟨zaO e4 own,acc++[m.d],?_,by simp; exact al,?_,q⟩
          ·rw [zbQ,o8.1.length,bt.1,← o'.1.length,el]
          ·have o9:=o8.wiped own
           rw [w3,ww] at o9
           exact o9
   | false =>
     rw [yaH yat] at q ⊢
     refine ⟨zaO e3 own,acc,?_,ycb al,?_,q⟩
     ·rw [zbQ,o4.1.length,bt.1,← o'.1.length,el]
     ·have o9:=o4.wiped own
      rw [w3,ww] at o9
      exact o9
  ·exact q'.elim
 ·have e0:i=ds.length:=by omega
  subst e0
  rw [ybU] at q'
  refine .inl ⟨wk.stop _ H' _ hsep (yaw _),?_⟩
  refine q' (.ref dd) H' ?_
  have o9:=back H' e' ((.ref dd,.lst acc)::(R++P)) el o'
  exact Ok.pops (P:=R) (o9.perm yae.symm)
section
variable {y:Y} {κ:List (Nat×V)} {elt tg iter:Expr} {ifs:List Expr} {scope:Scope} {own:List (Str×Nat)} {pos:Pos} {wi:WI} {t:Tg} {tt:WT} {te:WE}
theorem se_lc (hc:y.X.calm=true) (hN:y.X.N.Nodup) (hi:SI y tg iter wi) (ok:BlkOk y.X.N y.X.env.scope scope own)
 (hg:∀ s H C cl fp,PG (y.blk s H scope C cl fp).X tg (t.tg y.X.K)) (ht:∀ s H C cl fp,STs (y.blk s H scope C cl fp) ifs tt) (he:∀ s H C cl fp,SE (y.blk s H scope C cl fp) elt te)
 (hs:∀ x,foldedSetIterable iter y.X.env x=pure x) (ho:∀ i∈t.slots,i∈own.map (·.2)) (mt:zek tt) (me:zcA te) (htp:(isTp tg && !t.isTp)=false):SE y (.ListComp elt [⟨tg,iter,ifs,0⟩] scope pos) (wLc wi t tt te (own.map (·.2))) where
 run:=zbH (pe_lc hc hN hi.run ok (λs H C cl fp=>hg s H C cl fp) (λs H C cl fp=>(ht s H C cl fp).run) (λs H C cl fp=>(he s H C cl fp).run) hs) λσ H Q q=>zpQ htp hi.mono mt me ho q
 mono:=zkM hi.mono mt me
theorem zsa {i:Nat} {x:Str} {py spos:Pos} (hc:y.X.calm=true) (hN:y.X.N.Nodup) (hy:y.X.N[i]?=some x) (hyl:y.X.env.scope.names.lookup x=some .local)
 (hsw:swapsWith (.ListComp elt [⟨tg,iter,ifs,0⟩] scope pos) (some (.Name x py)) spos.line y.X.env=pure true) (hi:SI y tg iter wi) (ok:BlkOk y.X.N y.X.env.scope scope own)
 (hg:∀ s H C cl fp,PG (y.blk s H scope C cl fp).X tg (t.tg y.X.K)) (ht:∀ s H C cl fp,STs (y.blk s H scope C cl fp) ifs tt) (he:∀ s H C cl fp,SE (y.blk s H scope C cl fp) elt te)
 (hs:∀ x,foldedSetIterable iter y.X.env x=pure x) (ho:∀ i∈t.slots,i∈own.map (·.2)) (mt:zek tt) (me:zcA te) (hκ:∀ p∈κ,p.1≠i) (htp:(isTp tg && !t.isTp)=false):SS y κ (.Assign [.Name x py] (.ListComp elt [⟨tg,iter,ifs,0⟩] scope pos) spos) (sSet i (wLc wi t tt te (own.map (·.2)))) where
 run:=zdW (ps_setLc hc hN hy hyl hsw hi.run ok (λs H C cl fp=>hg s H C cl fp) (λs H C cl fp=>(ht s H C cl fp).run) (λs H C cl fp=>(he s H C cl fp).run) hs) λD σ H ⟨e,P,hk,h0,q⟩ =>
  zpQ htp hi.mono mt me ho ⟨e,P,h0,zkM hi.mono mt me _ _ _ _ _ (λm e1 q v H1 o=>q _ H1 (hk.set hκ) (zfr i o)) (λ_ _ q c d H' r o=>q σ c d H' hk r o) q⟩
 mono:=λE E' e l q=>zkM hi.mono mt me _ _ _ _ _ (λ_ _ q=>l.nx _ q) l.ex q
end
structure Fn where
 n:Nat
 kp:List Nat
 sp:List M->(M->En->Prop)->(Xn->Prop)->Prop
def zcS (sp:List M->(M->En->Prop)->(Xn->Prop)->Prop):Prop:=∀ ms Q Q' X X',(∀ m e,Q m e->Q' m e)->(∀ x,X x->X' x)->sp ms Q X->sp ms Q' X'
def spOf (K:PySem.W.Frag) (xr:Xn->Value->Option Addr->Hp->Prop) (fn:Fn):Sp:=λvs H Q E=>vs.length=fn.n/\∃ ms P,ms.length=vs.length/\Sep K H (vs.zip ms++P) /\
 fn.sp ms (λm ms'=>∀ v H',Sep K H' ((v,m)::(prs (vs.map some) ms'++P))->Q v H') (λx=>∀ c d H',xr x c d H'->Sep K H' P->E c d H')
def mvAs:List Opd->En->(List M->En->Prop)->Prop
 | [],e,k=>k [] e
 | .vl m::as,e,k=>mvAs as e λms e'=>k (m::ms) e'
 | .pk i::as,e,k=>match e[i]? with
   | some (some m)=>mvAs as (e.set i none) λms e'=>k (m::ms) e'
   | _=>False
 | .fd _ _ _::_,_,_=>False
def bkAs:List Opd->En->En->En
 | .pk i::as,m::ms,e=>bkAs as ms (e.set i m)
 | .vl _::as,_::ms,e=>bkAs as ms e
 | _,_,e=>e
def za0 (fn:Fn) (wa:WA):WE:=λe Q X=>wa e (λas e1=>mvAs as e1 λms e2=>ms.length=fn.n/\fn.sp ms (λm ms'=>Q m (bkAs as ms' e2)) (λx=>X x e2)) X
theorem ziS:∀ {as:List Opd} {e:En} {k k':List M->En->Prop},(∀ m e,k m e->k' m e)->mvAs as e k->mvAs as e k'
 | [],_,_,_,h,q=>h _ _ q
 | .vl m::as,_,_,_,h,q=>ziS (as:=as) (λms e' q=>h _ _ q) q
 | .fd _ _ _::_,_,_,_,_,q=>q.elim
 | .pk i::as,e,_,_,h,q=>by
   unfold mvAs at *
   split at q
   ·exact ziS (λms e' q=>h _ _ q) q
   ·exact q.elim
theorem zoO {fn:Fn} {wa:WA} (hf:zcS fn.sp) (ha:zkG wa):zcA (za0 fn wa):=λe Q Q' X X' hq hx q =>
 ha _ _ _ _ _ (λas e1 q=>ziS (λms e2 q=>⟨q.1,hf _ _ _ _ _ (λm e q=>hq _ _ q) (λx q=>hx _ _ q) q.2⟩) q) hx q
section
variable {K:PySem.W.Frag} {H:Hp} {σ:L2.St}
theorem zmY:∀ {as:List Opd} {vs:List V} {e:En} {P:List (V×M)} {k:List M->En->Prop},Ok K H σ e (zeD as vs++P)->zoL σ as vs->mvAs as e k->∃ ms e2,ms.length=vs.length/\Ok K H σ e2 (vs.zip ms++P)/\k ms e2
 | [],[],e,P,k,h,_,q=>⟨[],e,rfl,h,q⟩
 | [],_::_,_,_,_,_,p,_=>p.elim
 | _::_,[],_,_,_,_,p,_=>p.elim
 | .fd _ _ _::_,_::_,_,_,_,_,_,q=>q.elim
 | .vl m::as,v::vs,e,P,k,h,p,q=>by
   have h':Ok K H σ e (zeD as vs++((v,m)::P)):=by
    have e1:zeD (.vl m::as) (v::vs)++P=zeD as vs++((v,m)::P):=by
     show (zeD as vs++[(v,m)])++P=_
     rw [yah]
     rfl
    rw [← e1]
    exact h
   obtain ⟨ms,e2,l,o,q⟩:=zmY (as:=as) h' p.2 q
   exact ⟨m::ms,e2,yaX (· + 1) l,o.perm yae,q⟩
 | .pk i::as,v::vs,e,P,k,h,p,q=>by
   unfold mvAs at q
   split at q
   ·rename_i m e1
    have h':Ok K H σ e (zeD as vs++P):=by
     have e2:zeD (.pk i::as) (v::vs)++P=zeD as vs++P:=by
      show (zeD as vs++[])++P=_
      rw [yaE]
     rw [← e2]
     exact h
    obtain ⟨v',ev,o1⟩:=h'.take e1
    have e3:some (some v)=some (some v'):=p.1.symm.trans ev
    cases e3
    obtain ⟨ms,e2,l,o,q⟩:=zmY (as:=as) (o1.perm yae.symm) p.2 q
    exact ⟨m::ms,e2,yaX (· + 1) l,o.perm yae,q⟩
   ·exact q.elim
theorem zsb {σ:L2.St} {i:Nat} {v:V} (g:σ[i]?=some (some v)):σ.set i (some v)=σ:=by
 have hi:=(yaf.mp g).1
 apply ybm
 intro j
 by_cases z:i=j
 ·subst z
  rw [yaO hi,g]
 ·rw [yaB z]
theorem ziy (v:V) (vs:List V) (m:Option M) (ms:En):prs ((v::vs).map some) (m::ms)=(match m with
 | some m=>[(v,m)]
 | none=>[])++prs (vs.map some) ms:=by cases m<;>rfl
theorem zkN:∀ {as:List Opd} {vs:List V} {ms:En} {e:En} {R:List (V×M)},Ok K H σ e (prs (vs.map some) ms++R)->zoL σ as vs->Ok K H σ (bkAs as ms e) R
 | [],[],ms,e,R,h,_=>by
   have h':=Ok.pops h
   cases ms<;>exact h'
 | [],_::_,_,_,_,_,p=>p.elim
 | _::_,[],_,_,_,_,p=>p.elim
 | a::as,v::vs,[],e,R,h,p=>by
   have h':=Ok.pops h
   cases a<;>exact h'
 | .fd _ _ _::_,_::_,some _::_,_,_,h,_=>h.pops
 | .fd _ _ _::_,_::_,none::_,_,_,h,_=>h.pops
 | .vl m::as,v::vs,m'::ms,e,R,h,p=>by
   rw [ziy,yah] at h
   exact zkN (as:=as) h.pops p.2
 | .pk i::as,v::vs,some m::ms,e,R,h,p=>by
   rw [ziy,yah] at h
   exact zkN (as:=as) (Ok.give h p.1) p.2
 | .pk i::as,v::vs,none::ms,e,R,h,p=>by
   rw [ziy,yah] at h
   have h':=Ok.forget h i (some v)
   rw [zsb p.1] at h'
   exact zkN (as:=as) h' p.2
end
theorem zpR {y:Y} {fn:Fn} {wa:WA} {σ:L2.St} {H:Hp} {Q:VK} (hf:zcS fn.sp) (ha:zkG wa) (h:zgl y (za0 fn wa) σ H Q) :
 tCallS (spOf y.X.K y.xr fn) (λσ c d H=>y.W c d σ H) (zpI y wa) σ H Q:=by
 obtain ⟨e,P,h0,q⟩:=h
 refine ⟨e,P,h0,ha _ _ _ _ _ (λas e1 q vs H1 o => ?_) (λ_ _ q=>q) q⟩
 obtain ⟨o,p⟩:=o
 obtain ⟨ms,e2,l,o2,hn,q⟩:=zmY o p q
 have sp:Sep y.X.K H1 (vs.zip ms++(prs σ e2++P)):=o2.2.perm (zhn _ _ _)
 refine ⟨by rw [← l,hn],ms,prs σ e2++P,l,sp,hf _ _ _ _ _ (λm ms' q v H' s=>q v H' ?_) (λx q c d H' r s=>q c d H' r ⟨o2.1,s⟩) q⟩
 have s':Sep y.X.K H' (prs σ e2++(prs (vs.map some) ms'++((v,m)::P))):=s.perm (by
  have p1:((v,m)::(prs (vs.map some) ms'++(prs σ e2++P))).Perm (prs (vs.map some) ms'++(prs σ e2++((v,m)::P))):=by
   refine List.Perm.trans ?_ ((yae.symm).append_left _)
   exact yae.symm
  exact p1.trans (zhn _ _ _))
 exact zkN (as:=as) ⟨o2.1,s'⟩ p
section
variable {y:Y} {CX:CXT} {k:Nat} {f:Addr} {fd:FuncData} {ps:List Str} {fn:Fn} {x:Str} {p pos:Pos} {e:Expr} {es:List Expr} {wa:WA}
theorem zkO (F:FnOk y.X.prog y.X.w y.X.K y.X.mg y.X.base CX k f fd ps (spOf y.X.K y.xr fn)) (hr:Room k y.X.A) (hg:Gl y.X x) (hm:y.X.mg x=some (.ref f)) (hk:PySem.W.keepIn y.X.K (.ref f)=true) (hb:Binds y.X.K fd ps [])
 (hx:∀ σ,PassesAt CX y.X σ (λc d H=>y.W c d σ H)) (hf:zcS fn.sp) (ha:SA y (e::es) wa) (hdb:(x==("__debug__" : Str))=false) (he:starEach (e::es) y.X.env=(false,eval e y.X.env)::starEach es y.X.env) (hpl:(backTo pos (starEach es y.X.env)).any (·.1)=false) :
 SE y (.Call (.Name x p) (e::es) [] pos) (za0 fn wa) where
 run:=zbH (pe_callS (E:=λσ c d H=>y.W c d σ H) F hr hg hm hk hb hx ha.run hdb he hpl) λσ H Q q=>zpR hf ha.mono q
 mono:=zoO hf ha.mono
end
def giv (kp:List Nat) (n:Nat) (e:En):En:=(List.range n).map λi=>if i∈kp then (e[i]?).join else none
def wFn (N n:Nat) (kp:List Nat) (w:WS):List M->(M->En->Prop)->(Xn->Prop)->Prop:=λms Q X =>
 w { nx:=λe'=>Q (.fz .non) (giv kp n e'),rt:=λm e'=>Q m (giv kp n e'),bk:=λ_=>False,ct:=λ_=>False,ex:=λx _=>X x } (ms.map some++List.replicate (N-n) none)
theorem zgO:∀ {vs:List V} {ms:List M} (k:Nat),ms.length=vs.length->prs (vs.map some++List.replicate k none) (ms.map some++List.replicate k none)=vs.zip ms/\Al (vs.map some++List.replicate k none) (ms.map some++List.replicate k none)
 | [],[],k,_=>by
   show prs (List.replicate k none) (List.replicate k none)=[]/\Al (List.replicate k none) (List.replicate k none)
   induction k with
   | zero=>exact ⟨rfl,trivial⟩
   | succ k ih=>exact ih
 | v::vs,m::ms,k,h=>by
   obtain ⟨h1,h2⟩:=zgO (vs:=vs) (ms:=ms) k (Nat.succ.inj h)
   exact ⟨yaX ((v,m) :: ·) h1,h2⟩
 | [],_::_,_,h=>by cases h
 | _::_,[],_,h=>by cases h
def zcB (kp:List Nat) (vs:List V):List (Nat×V):=(kp.filter (· < vs.length)).map λi=>(i,vs.getD i .non)
theorem zkc {kp:List Nat} {vs:List V} {k:Nat}:Kept (zcB kp vs) (vs.map some++List.replicate k none):=λp hp=>by
 obtain ⟨i,hi,rfl⟩:=yal.mp hp
 have hl:i<vs.length:=yai (ya1.mp hi).2
 show (vs.map some++List.replicate k none)[i]?=some (some (vs.getD i .non))
 rw [yca (by simpa using hl),yaA,yad hl,yay,yad hl]
 rfl
theorem Ok.zero {K:PySem.W.Frag} {H:Hp} {σ:L2.St} {e:En} {P:List (V×M)} (h:Ok K H σ e P):Sep K H P:=Sep.right h.2
theorem znX {K:PySem.W.Frag} {H:Hp} {P:List (V×M)} {σ:L2.St} {e:En} {kp:List Nat} {vs:List V} (h:Ok K H σ e P) (hk:Kept (zcB kp vs) σ):Sep K H (prs (vs.map some) (giv kp vs.length e)++P):=by
 have key:∀ (n:Nat),n<=vs.length->∃ e2,(∀ i,i<vs.length-n->e2[i]?=e[i]?)/\Ok K H σ e2 (prs ((vs.drop (vs.length-n)).map some) ((giv kp vs.length e).drop (vs.length-n))++P):=by
  intro n
  induction n with
  | zero =>
    intro _
    refine ⟨e,λ_ _=>rfl,?_⟩
    rw [yb3,ybU]
    exact h
  | succ n ih =>
    intro hn
    obtain ⟨e2,he,o⟩:=ih (by omega)
    obtain ⟨j,hj⟩:∃ j,j=vs.length-(n+1):=⟨_,rfl⟩
    have hj1:vs.length-n=j+1:=by omega
    have hjl:j<vs.length:=by omega
    rw [← hj]
    rw [hj1] at o he
    have hgl:j<(giv kp vs.length e).length:=by unfold giv; simp; exact hjl
    have hg:(giv kp vs.length e)[j]=if j∈kp then (e[j]?).join else none:=by
     have z:(giv kp vs.length e)[j]?=some (if j∈kp then (e[j]?).join else none):=by
      unfold giv
      rw [yaA,ybd hjl]
      rfl
     rw [yad hgl] at z
     exact yaQ z
    rw [ybe hjl,ybe hgl,ziy,hg]
    by_cases hkp:j∈kp
    ·rw [yaM hkp]
     cases q:(e[j]?).join with
     | none =>
       exact ⟨e2,λi hi=>he i (by omega),o⟩
     | some m =>
       have e1:e2[j]?=some (some m):=by
        rw [he j (by omega)]
        cases r:e[j]? with
        | none=>rw [r] at q; cases q
        | some z=>rw [r] at q; exact yaX some q
       obtain ⟨v,ev,o2⟩:=o.take e1
       have hp:(j,vs.getD j .non)∈zcB kp vs:=yal.mpr ⟨j,ya1.mpr ⟨hkp,yaj hjl⟩,rfl⟩
       have kv:σ[j]?=some (some (vs.getD j .non)):=hk _ hp
       have ee:some (some v)=some (some (vs.getD j .non)):=ev.symm.trans kv
       cases ee
       have eg:vs.getD j .non=vs[j]:=by
        rw [yay,yad hjl]
        rfl
       rw [eg] at o2
       refine ⟨e2.set j none,λi hi => ?_,o2⟩
       rw [yaB (by omega)]
       exact he i (by omega)
    ·rw [yaH hkp]
     exact ⟨e2,λi hi=>he i (by omega),o⟩
 obtain ⟨e2,_,o⟩:=key vs.length (yaw _)
 rw [Nat.sub_self] at o
 exact o.zero
section
variable {P:Program} {w:World} {K:PySem.W.Frag} {mg:Str->Option Value} {base:Heap}
abbrev yOf (P:Program) (w:World) (K:PySem.W.Frag) (mg:Str->Option Value) (base:Heap) (xr:Xn->Value->Option Addr->Hp->Prop) (N:List Str) (qual:Str) (scope:Scope) (f:Addr) (cdv:Value) (A:Around) (outer:List Env) (s:Shared) (H:Hp) (E:XK):Y :=
 ⟨cxOf (L2.CX P w) P w K mg base N qual scope f cdv A outer s H E,xr,λc d _ H=>E c d H⟩
theorem fn_ok {x qual:Str} {st:Stmt} {f:Addr} {fd:FuncData} {N ps:List Str} {k:Nat} {kp:List Nat} {wb:WS} {xr:Xn->Value->Option Addr->Hp->Prop} (F:Fun K x qual st f fd) (S:FnScope N ps (defScope st))
 (hb:∀ cdv A outer s H E vs,vs.length=ps.length->Room k (A.deeper (envOfC qual (defScope st) s.heap.objs.size f cdv))->SSs (yOf P w K mg base xr N qual (defScope st) f cdv A outer s H E) (zcB kp vs) (defBody st) wb) :
 FnOk P w K mg base (L2.CX P w) (k+1) f fd ps (spOf K xr ⟨ps.length,kp,wFn N.length ps.length kp wb⟩):=by
 refine F.okX S (λvs H Q E h=>h.1) (λcdv A outer s H vs Q E hr h => ?_)
 obtain ⟨hl,ms,R,hm,sp,q⟩:=h
 have hl:vs.length=ps.length:=hl
 have B:=hb cdv A outer s H E vs hl hr
 refine ⟨_,B.run,?_⟩
 obtain ⟨p1,p2⟩:=zgO (vs:=vs) (ms:=ms) (N.length-vs.length) hm
 have ok:Ok K H (start N vs) (ms.map some++List.replicate (N.length-ps.length) none) R:=by
  rw [← hl]
  refine ⟨p2,?_⟩
  show Sep K H (prs (vs.map some++List.replicate (N.length-vs.length) none) (ms.map some++List.replicate (N.length-vs.length) none)++R)
  rw [p1]
  exact sp
 refine ⟨_,R,zkc,ok,?_⟩
 refine B.mono { nx:=λe'=>_,rt:=λm e'=>_,bk:=λ_=>False,ct:=λ_=>False,ex:=λx _=>_ } _ _ ⟨λe' q σ' H' hk o => ?_,λm e' q σ' v H' hk o => ?_,λ_ z=>z.elim,λ_ z=>z.elim,λx e' q σ' c d H' hk r o => ?_⟩ q
 ·have o':Ok K H' σ' e' ((.non,.fz .non)::R):=by
   obtain ⟨G,g⟩:=o.2.opn
   exact ⟨o.1,(g.res _ _ _ (.same .non)).perm yae.symm⟩
  refine q .non H' ?_
  have z:=znX o' hk
  rw [hl] at z
  exact z.perm yae
 ·refine q v H' ?_
  have z:=znX o hk
  rw [hl] at z
  exact z.perm yae
 ·exact q c d H' r o.zero
end
def sgn (c:Nat):D:=.str ⟨#[c]⟩
def zlK:D->Option (List D)
 | .tup ds=>some ds
 | .lst ds=>some ds
 | .str s=>some (s.cps.toList.map sgn)
 | _=>none
def iSeq (w:WE):WI:=λe Q X=>w e (λm e1=>match zlK m.d with
 | some ds=>Q ds e1
 | none=>False) X
section
variable {K:PySem.W.Frag}
theorem zer {H:Hp} {x:V} {d:D} {L:List (V×M)} (h:Sep K H ((x,.fz d)::L)):∃ G,Ex G H/\Rep K G x d/\∀ v d,Rep K G v d->Sep K H ((v,.fz d)::(x,.fz d)::L)\/True:=by
 obtain ⟨G,g⟩:=h.opn
 obtain ⟨F,w⟩:=g.own (x,.fz d) yaa
 cases w with
 | fz w=>exact ⟨G,g.ex,w,λ_ _ _=>.inr trivial⟩
theorem ziz {H:Hp} {x:V} {d d':D} {v:V} {L:List (V×M)} (h:Sep K H ((x,.fz d)::L)) (f:∀ G,Ex G H->Rep K G x d->Rep K G v d'):Sep K H ((v,.fz d')::(x,.fz d)::L):=by
 obtain ⟨G,g⟩:=h.opn
 obtain ⟨F,w⟩:=g.own (x,.fz d) yaa
 cases w with
 | fz w=>exact g.res _ _ _ (.same (f G g.ex w))
theorem zpS {tp:Bool} {a:Addr} {ds:List D}:Walks K tp (Itt K a) ds [(.ref a,.fz (.tup ds))] where
 go:=λi H L d h e=>by
  have h:Sep K H ((.ref a,.fz (.tup ds))::L):=h
  obtain ⟨G,ex,r,_⟩:=zer h
  cases r with
  | tup hs rs =>
    obtain ⟨v,hv,_⟩:=rs.at e
    refine ⟨⟨_,v,(hs.mono ex).sqT,hv⟩,λx H' yl => ?_⟩
    obtain ⟨rfl,hx⟩:=yl
    refine .inl (ziz h λG' ex' r' => ?_)
    cases r' with
    | tup hs' rs' =>
      obtain ⟨v',hv',rv'⟩:=rs'.at e
      have:=hx _ (hs'.mono ex').sqT
      rw [hv'] at this
      cases this
      exact rv'
 stop:=λi H L h hl=>by
  have h:Sep K H ((.ref a,.fz (.tup ds))::L):=h
  obtain ⟨G,ex,r,_⟩:=zer h
  cases r with
  | tup hs rs=>exact ⟨_,(hs.mono ex).sqT,by rw [rs.length]; exact hl⟩
theorem zpT {tp:Bool} {a:Addr} {ds:List D}:Walks K tp (Itl K a) ds [(.ref a,.fz (.lst ds))] where
 go:=λi H L d h e=>by
  have h:Sep K H ((.ref a,.fz (.lst ds))::L):=h
  obtain ⟨G,ex,r,_⟩:=zer h
  cases r with
  | lst hs rs =>
    obtain ⟨v,hv,_⟩:=rs.at e
    refine ⟨⟨_,v,(SqL.of (ex.keep hs)),hv⟩,λx H' yl => ?_⟩
    obtain ⟨rfl,hx⟩:=yl
    refine .inl (ziz h λG' ex' r' => ?_)
    cases r' with
    | lst hs' rs' =>
      obtain ⟨v',hv',rv'⟩:=rs'.at e
      have:=hx _ (SqL.of (ex'.keep hs'))
      rw [hv'] at this
      cases this
      exact rv'
 stop:=λi H L h hl=>by
  have h:Sep K H ((.ref a,.fz (.lst ds))::L):=h
  obtain ⟨G,ex,r,_⟩:=zer h
  cases r with
  | lst hs rs=>exact ⟨_,(SqL.of (ex.keep hs)),by rw [rs.length]; exact hl⟩
theorem ziT {H:Hp} {L:List (V×M)} {v:V} {d:D} (h:Sep K H L) (r:∀ G,Rep K G v d):Sep K H ((v,.fz d)::L):=by
 obtain ⟨G,g⟩:=h.opn
 exact g.res _ _ _ (.same (r G))
theorem zpU {tp:Bool} {s:Str}:Walks K tp (Its s) (s.cps.toList.map sgn) [] where
 go:=λi H L d h e=>by
  rw [yaA] at e
  cases q:s.cps.toList[i]? with
  | none=>rw [q] at e; cases e
  | some c =>
    rw [q] at e
    cases e
    have hi:i<s.cps.size:=by
     have:=(yaf.mp q).1
     rwa [yaU] at this
    refine ⟨hi,λx H' yl => ?_⟩
    obtain ⟨rfl,c',hc,rfl⟩:=yl
    rw [Array.getElem?_toList,hc] at q
    cases q
    exact .inl (ziT h λG=>.str _)
 stop:=λi H L h hl=>by
  rw [yac,yaU] at hl
  exact hl
def rngD (lo:Int) (n:Nat):List D:=(List.range n).map λ(k:Nat)=>D.int (lo+(k:Int))
theorem zpV {tp:Bool} {lo:Int} {n:Nat}:Walks K tp (Itr lo n) (rngD lo n) [] where
 go:=λi H L d h e=>by
  have hi:i<n:=by
   have:=(yaf.mp e).1
   unfold rngD at this
   simpa using this
  unfold rngD at e
  rw [yaA,ybd hi] at e
  cases e
  refine ⟨hi,λx H' yl => ?_⟩
  obtain ⟨rfl,rfl⟩:=yl
  exact .inl (ziT h λG=>.int _)
 stop:=λi H L h hl=>by
  unfold rngD at hl
  have z:n<=i:=by simpa using hl
  exact z
end
section
variable {X:Cx} {pins:List (Addr×Obj)} {σ:L2.St} {H:Hp} {s:Shared} {tg:Expr} {R:It->Hp->Prop} {a:Addr} {xs:List V}
theorem iterL (I:Inv X pins σ H s) (hq:SqL X.K H a xs) (q:R (Itl X.K a) H):wpAny (model X.prog X.w) X.A (pyIter (.ref a)) (PIE X pins σ tg R) X.xe s:=by
 obtain ⟨its,_,p,_⟩:=I.list hq
 refine wpAny_pyIter_list p.isList ⟨_,[s.heap.objs.size],_,_,H,rfl,I.kept (t':=s.toks) ?_,turn_list a _,⟨_,Heap.get?_push_size _ rfl,rfl,rfl⟩,?_,q⟩
 ·exact λb o e=>Heap.get?_push_of_some _ e
 ·intro b hb
  have e:b=s.heap.objs.size:=by simpa using hb
  rw [e]
  exact I.fpOk (yaw _) (I.hok.fresh (yaw _))
theorem iterT (I:Inv X pins σ H s) (hq:SqT X.K H a xs) (q:R (Itt X.K a) H):wpAny (model X.prog X.w) X.A (pyIter (.ref a)) (PIE X pins σ tg R) X.xe s:=by
 obtain ⟨its,_,p,_⟩:=I.tuple hq
 refine wpAny_pyIter_tuple (show s.heap.IsTuple a its.toArray from p) ⟨_,[s.heap.objs.size],_,_,H,rfl,I.kept (t':=s.toks) ?_,turn_tuple a _,⟨_,Heap.get?_push_size _ rfl,rfl,rfl⟩,?_,q⟩
 ·exact λb o e=>Heap.get?_push_of_some _ e
 ·intro b hb
  have e:b=s.heap.objs.size:=by simpa using hb
  rw [e]
  exact I.fpOk (yaw _) (I.hok.fresh (yaw _))
end
section
variable {X:Cx} {pins:List (Addr×Obj)} {σ:L2.St} {H:Hp} {s:Shared} {tg:Expr} {R:It->Hp->Prop}
theorem iterS {x:Str} {t:Tok} (I:Inv X pins σ H s) (q:R (Its x) H):wpAny (model X.prog X.w) X.A (pyIter (.str x t)) (PIE X pins σ tg R) X.xe s:=by
 cases ha:x.cps.all (· < 128) with
 | false=>exact wpAny_pyIter_wide ha (pi_one (tk:=s.toks) I _ (turn_str _ x t "str_iterator" (.inr rfl)) ⟨_,Heap.get?_push_size _ rfl,rfl,rfl⟩ q)
 | true=>exact wpAny_pyIter_ascii ha (pi_one (tk:=s.toks) I _ (turn_str _ x t "str_ascii_iterator" (.inl rfl)) ⟨_,Heap.get?_push_size _ rfl,rfl,rfl⟩ q)
end
section
variable {y:Y} {tg iter:Expr} {w:WE}
theorem zdI (h:SE y iter w):SI y tg iter (iSeq w) where
 run:=⟨λpins s σ H R I ⟨e,P,h0,q⟩=>by
  refine thn (h.run.run pins s σ H (λv H1=>∃ (m:M) (ds:List D) (e1:En),zlK m.d=some ds/\Ok y.X.K H1 σ e1 ((v,.fz m.d)::P)/\∀ J H1 R',Walks y.X.K (isTp tg) J ds R'->Ok y.X.K H1 σ e1 (R'++P)->R J H1) I ⟨e,P,h0,h.mono _ _ _ _ _ (λm e1 q v H1 o => ?_) (λ_ _ q=>q) q⟩) λv s1 ⟨x,H1,I1,r1,m,ds,e1,em,o,q⟩ => ?_
  ·split at q
   ·rename_i ds em
    exact ⟨m,ds,e1,em,o.freeze,q⟩
   ·exact q.elim
  ·obtain ⟨G,g⟩:=o.2.opn
   obtain ⟨F,w⟩:=g.own (x,.fz m.d) (yag _ yaa)
   cases w with
   | fz w =>
     generalize m.d=d at w em o
     cases w with
     | tup hs rs =>
       cases em
       cases r1
       exact iterT I1 ((hs.mono g.ex).sqT) (q _ H1 _ zpS o)
     | lst hs rs =>
       cases em
       cases r1
       exact iterL I1 (SqL.of (g.ex.keep hs)) (q _ H1 _ zpT o)
     | str x =>
       cases em
       obtain ⟨t,rfl⟩:=r1
       exact iterS I1 (q _ H1 _ zpU o.pop)
     | non=>cases em
     | bl _=>cases em
     | int _=>cases em
     | ty _=>cases em
     | opq _=>cases em
     | att _ _=>cases em
     | adr _=>cases em
     | atx _ _=>cases em
     | scr _=>cases em
     | dK _ _=>cases em
     | dT _ _=>cases em⟩
 mono:=λe Q Q' X X' hq hx q=>h.mono _ _ _ _ _ (λm e1 q=>by
  split at q
  ·exact hq _ _ q
  ·exact q.elim) hx q
end
def rngB (i:Int):Prop:=-(2 ^ 62)<=i/\i<2 ^ 62
def zc4 (m:M) (k:Int->Prop):Prop:=match m with
 | .fz (.int j)=>k j
 | _=>False
theorem za5 {m:M} {k k':Int->Prop} (h:∀ i,k i->k' i) (q:zc4 m k):zc4 m k':=by
 unfold zc4 at *
 split at q
 ·exact h _ q
 ·exact q.elim
theorem zbs {K:PySem.W.Frag} {G H:Hp} {v:V} {m:M} {k:Int->Prop} (w:∃ F,Own K G H v m F) (q:zc4 m k):∃ i,v=.int i/\k i:=by
 unfold zc4 at q
 split at q
 ·obtain ⟨F,w⟩:=w
  cases w with
  | fz w =>
    cases w
    exact ⟨_,rfl,q⟩
 ·exact q.elim
def iR1 (o:WO):WI:=λe Q X=>o e (λa e1=>zbB a e1 λm=>zc4 m λj=>rngB j/\Q (rngD 0 j.toNat) e1) X
def rngC (i c:Int) (n:Nat):List D:=(List.range n).map λ(k:Nat)=>D.int (i+(k:Int)*c)
def iR3 (o o' o'':WO):WI:=λe Q X=>o e (λa e1=>o' e1 (λb e2=>o'' e2 (λc e3=>zbB a e3 λm=>zbB b e3 λm'=>zbB c e3 λm''=>zc4 m λi=>zc4 m' λj=>zc4 m'' λc=>∃ n,RgC i j c n/\Q (rngC i c n) e3) X) X) X
theorem zoP {K:PySem.W.Frag} {tp:Bool} {i c:Int} {n:Nat}:Walks K tp (Itc i c n) (rngC i c n) [] where
 go:=λk H L d h e=>by
  have hi:k<n:=by
   have:=(yaf.mp e).1
   unfold rngC at this
   simpa using this
  unfold rngC at e
  rw [yaA,ybd hi] at e
  cases e
  refine ⟨hi,λx H' yl => ?_⟩
  obtain ⟨rfl,rfl⟩:=yl
  exact .inl (ziT h λG=>.int _)
 stop:=λk H L h hl=>by
  unfold rngC at hl
  have z:n<=k:=by simpa using hl
  exact z
section
variable {y:Y} {tg a b c:Expr} {o o' o'':WO} {p pos:Pos}
theorem zpW (hg:Gl y.X "range") (hm:y.X.mg "range" = none) (ha:SO y a o) (hs:starEach [a] y.X.env=[(false,eval a y.X.env)]):SI y tg (.Call (.Name "range" p) [a] [] pos) (iR1 o) where
 run:=ztH (pi_range1 hg hm (zhl ha zaf hs).run hs) λσ H R ⟨e,P,h0,q⟩=>by
  refine ⟨e,P,h0,ha.mono _ _ _ _ _ (λa e1 q vs H1 o => ?_) (λ_ _ q=>q) q⟩
  obtain ⟨o,p⟩:=o
  match vs,p with
  | [v],p =>
    obtain ⟨G,g⟩:=o.2.opn
    obtain ⟨m,m1,q⟩:=zbI o (λp z=>yan _ (yag _ z)) p.1 q
    obtain ⟨j,rfl,q1,q2⟩:=zbs (g.ownX _ m1) q
    exact ⟨j,rfl,q1.1,q1.2,q2 _ H1 [] zpV o.pops⟩
 mono:=λe Q Q' X X' hq hx q=>ha.mono _ _ _ _ _ (λa e1 q=>zaX (λm q=>za5 (λj q=>⟨q.1,hq _ _ q.2⟩) q) q) hx q
theorem zpX (hg:Gl y.X "range") (hm:y.X.mg "range" = none) (ha:SO y a o) (hb:SO y b o') (hc:SO y c o'') (hs:starEach [a,b,c] y.X.env=[(false,eval a y.X.env),(false,eval b y.X.env),(false,eval c y.X.env)]) (hs2:starEach [b,c] y.X.env=[(false,eval b y.X.env),(false,eval c y.X.env)])
 (hs3:starEach [c] y.X.env=[(false,eval c y.X.env)]):SI y tg (.Call (.Name "range" p) [a,b,c] [] pos) (iR3 o o' o'') where
 run:=ztH (pi_range3 hg hm (zhl ha (zhl hb (zhl hc zaf hs3) (by rw [hs2,hs3])) (by rw [hs,hs2])).run (by rw [hs,hs2]) (by rw [hs2]; rfl)) λσ H R ⟨e,P,h0,q⟩=>by
  refine ⟨e,P,h0,ha.mono _ _ _ _ _ (λa e1 q=>show o' e1 (λb e2=>o'' e2 (λc e3=>∀ vs H',OkA y.X.K H' σ e3 [a,b,c] vs P->_) _) _ from hb.mono _ _ _ _ _ (λb e2 q=>hc.mono _ _ _ _ _ (λc e3 q vs H1 o => ?_) (λ_ _ q=>q) q) (λ_ _ q=>q) q) (λ_ _ q=>q) q⟩
  obtain ⟨o,p⟩:=o
  match vs,p with
  | [v,u,t],p =>
    obtain ⟨G,g⟩:=o.2.opn
    obtain ⟨m,m1,q⟩:=zbI o (λp z=>yan _ (yag _ z)) p.1 q
    obtain ⟨m',m2,q⟩:=zbI o (λp z=>yan _ (yan _ (yag _ z))) p.2.1 q
    obtain ⟨m'',m3,q⟩:=zbI o (λp z=>yan _ (yan _ (yan _ (yag _ z)))) p.2.2.1 q
    obtain ⟨i,rfl,q⟩:=zbs (g.ownX _ m1) q
    obtain ⟨j,rfl,q⟩:=zbs (g.ownX _ m2) q
    obtain ⟨c,rfl,n,q1,q2⟩:=zbs (g.ownX _ m3) q
    exact ⟨i,j,c,n,rfl,q1,q2 _ H1 [] zoP o.pops⟩
 mono:=λe Q Q' X X' hq hx q=>ha.mono _ _ _ _ _ (λa e1 q=>hb.mono _ _ _ _ _ (λb e2 q=>hc.mono _ _ _ _ _ (λc e3 q=>zaX (λm q=>zaX (λm q=>zaX (λm q=>za5 (λj q=>za5 (λj q=>za5 (λj ⟨n,q1,q2⟩=>⟨n,q1,hq _ _ q2⟩) q) q) q) q) q) q) hx q) hx q) hx q
end
abbrev OPM:=M->List M->(D->M->Prop)->Prop
structure SndM (K:PySem.W.Frag) (T:String) (r:V->List V->Hp->VK->Prop) (op:OPM):Prop where
 run:∀ G H p m F xs ms (Q:VK),Ex G H->Own K G H (.ref p) m F->Owns K G H xs ms->op m ms (λd m'=>∀ v H',Rep K G v d->zoJ K G H p m' H'->Q v H')->r (.ref p) xs H Q
 mono:∀ a b (q q':D->M->Prop),(∀ d m,q d m->q' d m)->op a b q->op a b q'
def isTy (T:String):M->Bool
 | .lst _=>T == "list"
 | .dK _=>T == "dict"
 | .dT _=>T == "dict"
 | _=>false
def wMut (T:String) (op:OPM) (i:Nat) (wa:WA):WE:=λe Q X=>match e[i]? with
 | some (some m0)=>isTy T m0=true/\wa e (λas e1=>match e1[i]? with
   | some (some m)=>isTy T m=true/\zc3 as (e1.set i none) λms=>op m ms λd m'=>Q (.fz d) (e1.set i (some m'))
   | _=>False) X
 | _=>False
def Ins (L:List (V×M)):List V->List M->Prop
 | v::vs,m::ms=>(v,m)∈L/\Ins L vs ms
 | [],[]=>True
 | _,_=>False
theorem Ins.owns {K:PySem.W.Frag} {G H:Hp} {L:List (V×M)} (o:∀ q∈L,∃ F,Own K G H q.1 q.2 F):∀ {vs:List V} {ms:List M},Ins L vs ms->Owns K G H vs ms
 | [],[],_=>trivial
 | _::_,_::_,h=>⟨o _ h.1,Ins.owns o h.2⟩
 | [],_::_,h=>h.elim
 | _::_,[],h=>h.elim
theorem zlL {K:PySem.W.Frag} {H:Hp} {σ:L2.St} {e:En}:∀ {as:List Opd} {vs:List V} {k:List M->Prop} {R:List (V×M)},Ok K H σ e R->(∀ p∈zeD as vs,p∈R)->zoL σ as vs->zc3 as e k->∃ ms,Ins (exL (prs σ e++R)) vs ms/\k ms
 | [],[],_,_,_,_,_,q=>⟨[],trivial,q⟩
 | [],_::_,_,_,_,_,hp,_=>hp.elim
 | _::_,[],_,_,_,_,hp,_=>hp.elim
 | a::as,v::vs,k,R,h,hs,hp,q=>by
   obtain ⟨m,hm,q⟩:=zbI h (λp z=>hs p (yag _ z)) hp.1 q
   obtain ⟨ms,ho,q⟩:=zlL h (λp z=>hs p (yan _ z)) hp.2 q
   exact ⟨m::ms,⟨hm,ho⟩,q⟩
theorem zpY {T:String} {m:M} (h:isTy T m=true):m.isP=true:=by
 cases m<;>first | rfl | cases h
theorem znY {m:M} (h:m.isP=true):zpG m=[]:=by
 cases m<;>first | rfl | cases h
theorem zsc {K:PySem.W.Frag} {G H:Hp} {T:String} {v:V} {m:M} {F:List Addr} (h:isTy T m=true) (w:Own K G H v m F):tyV K T v H:=by
 cases w with
 | fz w=>cases h
 | lst w r=>exact .inl ⟨by simpa [isTy] using h,_,.of w⟩
 | dK w r=>exact .inr (.inr (.inl ⟨by simpa [isTy] using h,.inl ⟨_,w⟩⟩))
 | dT w r=>exact .inr (.inr (.inl ⟨by simpa [isTy] using h,.inr ⟨_,w⟩⟩))
 | lk w r=>cases h
 | bx _ _ _ _=>cases h
 | dq _=>cases h
 | dA _ _=>cases h
 | ob _ _=>cases h
theorem zpZ {T:String} {op:OPM} {i:Nat} {wa:WA} {K:PySem.W.Frag} {r:V->List V->Hp->VK->Prop} (hs:SndM K T r op) (ha:zkG wa):zcA (wMut T op i wa):=λe Q Q' X X' hq hx q=>by
 unfold wMut at *
 split at q
 ·refine ⟨q.1,ha _ _ _ _ _ (λas e1 q => ?_) hx q.2⟩
  split at q
  ·exact ⟨q.1,zeY (λms q=>hs.mono _ _ _ _ (λd m q=>hq _ _ q) q) q.2⟩
  ·exact q.elim
 ·exact q.elim
section
variable {y:Y} {T:String} {op:OPM} {i:Nat} {wa:WA} {r:V->List V->Hp->VK->Prop}
theorem zsd (hs:SndM y.X.K T r op) (ha:zkG wa) (σ:L2.St) (H:Hp) (Q:VK) (h:zgl y (wMut T op i wa) σ H Q):tVar i σ H λx H1=>tyV y.X.K T x H1/\zpI y wa σ H1 λxs H2=>r x xs H2 Q:=by
 obtain ⟨e,P,h0,q⟩:=h
 unfold wMut at q
 split at q
 ·rename_i m0 e0
  obtain ⟨t0,q⟩:=q
  obtain ⟨v,ev,mem⟩:=h0.peek e0
  obtain ⟨G,g⟩:=h0.2.opn
  obtain ⟨F,w⟩:=g.own _ mem
  refine ⟨v,ev,zsc t0 w,e,P,h0,ha _ _ _ _ _ (λas e1 q vs H1 o => ?_) (λ_ _ q=>q) q⟩
  obtain ⟨o,p⟩:=o
  split at q
  ·rename_i m em
   obtain ⟨tm,q⟩:=q
   have o':Ok y.X.K H1 σ e1 (zeD as vs++P):=o
   obtain ⟨v',ev',om⟩:=o'.take em
   have e3:some (some v)=some (some v'):=ev.symm.trans ev'
   cases e3
   obtain ⟨G1,p1,F1,rfl,w1,ex1,oth,up⟩:=(om.2.perm yae).mutR (zpY tm)
   obtain ⟨ms,ins,q⟩:=zlL om (λp z=>yab _ (yan _ z)) p q
   have ow:Owns y.X.K G1 H1 vs ms:=by
    refine Ins.owns (L:=exL (prs σ (e1.set i none)++((.ref p1,m)::(zeD as vs++P)))) (λq z => ?_) ins
    rcases znT (znU (yae (l₁:=prs σ (e1.set i none))) z) with z | z | z
    ·exact ⟨F1,z▸w1⟩
    ·rw [show zpG (V.ref p1,m).2=[] from znY (zpY tm)] at z
     exact nomatch z
    ·exact oth q z
   refine hs.run G1 H1 p1 m F1 vs ms Q ex1 w1 ow (hs.mono _ _ _ _ (λd m' q v' H' rv mo=>q v' H' ?_) q)
   have z:=up _ _ mo _ _ rv
   have z':Ok y.X.K H' σ (e1.set i none) ((.ref p1,m')::(v',.fz d)::(zeD as vs++P)):=⟨om.1,z.perm (by
    refine (List.Perm.swap _ _ _).trans ?_
    refine List.Perm.trans ?_ yae.symm
    refine List.Perm.cons _ ?_
    exact yae.symm)⟩
   have z2:=z'.give ev
   rw [ybD] at z2
   exact Ok.pops (P:=zeD as vs) (z2.perm (yae (l₁:=zeD as vs)).symm)
  ·exact q.elim
 ·exact q.elim
end
mutual
def D.py:D->Option PyData
 | .non=>some .none
 | .bl b=>some (.bool b)
 | .int i=>some (.int i)
 | .str s=>some (.str s)
 | .tup ds=>(D.pys ds).map .tuple
 | .lst ds=>(D.pys ds).map .list
 | _=>none
def D.pys:List D->Option (List PyData)
 | []=>some []
 | d::ds=>match d.py,D.pys ds with
   | some p,some ps=>some (p::ps)
   | _,_=>none
end
section
variable {K:PySem.W.Frag} {G H:Hp}
mutual
theorem Rep.dp (ex:Ex G H):∀ {v:V} {d:D} {p:PyData},Rep K G v d->d.py=some p->Dp K H v p
 | _,_,_,.non,e=>by cases e; exact .non
 | _,_,_,.bl b,e=>by cases e; exact .bl b
 | _,_,_,.int i,e=>by cases e; exact .int i
 | _,_,_,.str s,e=>by cases e; exact .str s
 | _,_,_,.tup (ds:=ds) h r,e=>by
   unfold D.py at e
   obtain ⟨ps,e1,rfl⟩:=yaJ.mp e
   exact .tup (h.mono ex).sqT (Reps.dp ex r e1)
 | _,_,_,.lst (ds:=ds) h r,e=>by
   unfold D.py at e
   obtain ⟨ps,e1,rfl⟩:=yaJ.mp e
   exact .lst (.of (ex.keep h)) (Reps.dp ex r e1)
 | _,_,_,.ty n,e=>by cases e
 | _,_,_,.opq v,e=>by cases e
 | _,_,_,.scr h,e=>by cases e
 | _,_,_,.dK h r,e=>by cases e
 | _,_,_,.dT h r,e=>by cases e
theorem Reps.dp (ex:Ex G H):∀ {vs:List V} {ds:List D} {ps:List PyData},Reps K G vs ds->D.pys ds=some ps->DpAll K H vs ps
 | _,_,_,.nil,e=>by cases e; exact .nil
 | _,_,_,.cons (d:=d) (ds:=ds) h r,e=>by
   unfold D.pys at e
   split at e
   ·rename_i p ps e1 e2
    cases e
    exact .cons (Rep.dp ex h e1) (Reps.dp ex r e2)
   ·cases e
end
theorem Own.dp {v:V} {m:M} {F:List Addr} {p:PyData} (ex:Ex G H) (h:Own K G H v m F) (e:m.d.py=some p):Dp K H v p:=by
 cases h with
 | fz h=>exact h.dp ex e
 | lst h r =>
   have e:(D.lst _).py=some p:=e
   unfold D.py at e
   obtain ⟨ps,e1,rfl⟩:=yaJ.mp e
   exact .lst (.of h) (r.dp ex e1)
 | dK h r=>cases e
 | dT h r=>cases e
 | lk _ _=>cases e
 | bx _ _ _ _=>cases e
 | dq _=>cases e
 | dA _ _=>cases e
 | ob _ _=>cases e
end
def opII (C:Int->Int->Prop) (f:Int->Int->D):OP2:=λa b q=>zc4 a λi=>zc4 b λj=>C i j/\q (.fz (f i j))
def zc5:D->Option V
 | .int i=>some (.int i)
 | .bl b=>some (.bl b)
 | .str s=>some (.str s)
 | .non=>some .non
 | _=>none
theorem ziU {K:PySem.W.Frag} {G:Hp} {d:D} {v:V} (e:zc5 d=some v):Rep K G v d:=by
 cases d with
 | int i=>cases e; exact .int _
 | bl i=>cases e; exact .bl _
 | str i=>cases e; exact .str _
 | non=>cases e; exact .non
 | _=>cases e
theorem znZ {K:PySem.W.Frag} {C:Int->Int->Prop} {f:Int->Int->D} {g:Int->Int->V} (e:∀ i j,zc5 (f i j)=some (g i j)):Snd2 K (rI C g) (opII C f) where
 run:=λG H x y mx my F F' Q ex w w' q=>by
  obtain ⟨i,rfl,q⟩:=zbs ⟨F,w⟩ q
  obtain ⟨j,rfl,c,q⟩:=zbs ⟨F',w'⟩ q
  exact ⟨i,j,rfl,rfl,c,q _ _ (.same (ziU (e i j)))⟩
 mono:=λa b q q' h k=>za5 (λi k=>za5 (λj k=>⟨k.1,h _ k.2⟩) k) k
theorem zp0 {K:PySem.W.Frag} {f:Int->Int->D} {g:Int->Int->V} (e:∀ i j,zc5 (f i j)=some (g i j)):Snd2 K (rI0 g) (opII (λ_ _=>True) f) where
 run:=λG H x y mx my F F' Q ex w w' q=>by
  obtain ⟨i,rfl,q⟩:=zbs ⟨F,w⟩ q
  obtain ⟨j,rfl,c,q⟩:=zbs ⟨F',w'⟩ q
  exact ⟨i,j,rfl,rfl,q _ _ (.same (ziU (e i j)))⟩
 mono:=λa b q q' h k=>za5 (λi k=>za5 (λj k=>⟨k.1,h _ k.2⟩) k) k
def opOr (a b:OP2):OP2:=λx y q=>a x y q\/b x y q
theorem Snd2.or {K:PySem.W.Frag} {r r':R2} {a b:OP2} (h:Snd2 K r a) (h':Snd2 K r' b):Snd2 K (λx y H Q=>r x y H Q\/r' x y H Q) (opOr a b) where
 run:=λG H x y mx my F F' Q ex w w' q=>q.imp (h.run _ _ _ _ _ _ _ _ _ ex w w') (h'.run _ _ _ _ _ _ _ _ _ ex w w')
 mono:=λa b q q' i k=>k.imp (h.mono _ _ _ _ i) (h'.mono _ _ _ _ i)
theorem Snd2.imp {K:PySem.W.Frag} {r:R2} {a b:OP2} (h:Snd2 K r a) (i:∀ x y q,b x y q->a x y q) (m:∀ a b' (q q':M->Prop),(∀ m,q m->q' m)->b a b' q->b a b' q'):Snd2 K r b where
 run:=λG H x y mx my F F' Q ex w w' q=>h.run _ _ _ _ _ _ _ _ _ ex w w' (i _ _ _ q)
 mono:=m
def zp1:OP2:=λa b q=>match a,b with
 | .fz (.str s),.fz (.str t)=>s.length+t.length<=sizeLine/\q (.fz (.str (s++t)))
 | _,_=>False
def zp2:OP2:=λa b q=>match a,b with
 | .fz (.tup s),.fz (.tup t)=>s.length+t.length<=sizeLine/\q (.fz (.tup (s++t)))
 | _,_=>False
def zkd:OP2:=λa b q=>match a.d,b.d with
 | .lst s,.lst t=>s.length+t.length<=sizeLine/\q (.lst (s++t))
 | _,_=>False
def zaS:OP2:=λa b q=>match a,b with
 | .fz (.int i),.fz (.int j)=>q (.fz (.int (i+j)))
 | .fz (.str s),.fz (.str t)=>s.length+t.length<=sizeLine/\q (.fz (.str (s++t)))
 | .fz (.tup s),.fz (.tup t)=>s.length+t.length<=sizeLine/\q (.fz (.tup (s++t)))
 | a,b=>zkd a b q
section
variable {K:PySem.W.Frag}
theorem zse:Snd2 K (λx y H Q=>∃ i j,x=.str i/\y=.str j/\i.length+j.length<=sizeLine/\Q (.str (i++j)) H) zp1 where
 run:=λG H x y mx my F F' Q ex w w' q=>by
  unfold zp1 at q
  split at q
  ·cases w with
   | fz w =>
     cases w
     cases w' with
     | fz w' =>
       cases w'
       exact ⟨_,_,rfl,rfl,q.1,q.2 _ _ (.same (.str _))⟩
  ·exact q.elim
 mono:=λa b q q' h k=>by
  unfold zp1 at *
  split at k
  ·exact ⟨k.1,h _ k.2⟩
  ·exact k.elim
theorem ziV {G H:Hp} {x:V} {ds:List D} {F:List Addr} (w:Own K G H x (.fz (.tup ds)) F):∃ a vs,x=.ref a/\TupAt G a vs/\Reps K G vs ds:=by
 cases w with
 | fz w =>
   cases w with
   | tup h r=>exact ⟨_,_,rfl,h,r⟩
def zuJ (K:PySem.W.Frag):R2:=λx y H Q=>∃ a b xs ys,x=.ref a/\y=.ref b/\SqT K H a xs/\SqT K H b ys/\xs.length+ys.length<=sizeLine /\
 (xs=[]->Q (.ref b) H)/\(xs≠[]->ys=[]->Q (.ref a) H)/\(xs≠[]->ys≠[]->∀ p o,H p=none->TupO (xs++ys) o->Q (.ref p) (upd H p o))
theorem zuK {X:Cx}:OpR X (binaryOp .Add) (zuJ X.K):=by
 intro pins s σ H x y v u Q I rx ry h
 obtain ⟨a,b,xs,ys,rfl,rfl,ha,hb,hz,q0,q1,q2⟩:=h
 by_cases hx:xs=[]
 ·subst hx
  cases rx
  cases ry
  obtain ⟨its,r1,p1,_⟩:=I.tuple ha
  obtain ⟨its2,r2,p2,_⟩:=I.tuple hb
  cases r1
  exact cat_tup0 p1 p2 ⟨.ref b,H,I,rfl,q0 rfl⟩
 ·cases rx
  cases ry
  obtain ⟨its,r1,p1,_⟩:=I.tuple ha
  obtain ⟨its2,r2,p2,_⟩:=I.tuple hb
  refine HT.cat_tup p1 p2 (λz=>hx (yco r1 |>.mp z)) (λz=>⟨.ref a,H,I,rfl,q1 hx (yco r2 |>.mp z)⟩) (λz => ?_) (by rw [← r1.length,← r2.length]; exact hz)
  obtain ⟨o,t,I'⟩:=zgM I (xs:=xs++ys) (by rw [yax]; exact hz) (r1.append r2)
  exact ⟨.ref s.heap.objs.size,_,I',rfl,q2 hx (λw=>z (yco r2 |>.mpr w)) _ _ (I.hok.fresh (yaw _)) t⟩
theorem zsf:Snd2 K (zuJ K) zp2 where
 run:=λG H x y mx my F F' Q ex w w' q=>by
  unfold zp2 at q
  split at q
  ·obtain ⟨a,vs,rfl,h1,r1⟩:=ziV w
   obtain ⟨b,us,rfl,h2,r2⟩:=ziV w'
   refine ⟨a,b,vs,us,rfl,rfl,(h1.mono ex).sqT,(h2.mono ex).sqT,by rw [r1.length,r2.length]; exact q.1,λe => ?_,λe e' => ?_,λ_ _ p o n t=>q.2 _ _ (.tup n t (r1.append r2))⟩
   ·subst e
    cases r1
    exact q.2 _ _ (.same (.tup h2 r2))
   ·subst e'
    cases r2
    exact q.2 _ _ (.same (by rw [yaE]; exact .tup h1 r1))
  ·exact q.elim
 mono:=λa b q q' h k=>by
  unfold zp2 at *
  split at k
  ·exact ⟨k.1,h _ k.2⟩
  ·exact k.elim
theorem zdq {G H:Hp} {x:V} {m:M} {ds:List D} {F:List Addr} (ex:Ex G H) (w:Own K G H x m F) (e:m.d=.lst ds):∃ a vs,x=.ref a/\H a=some (.lst vs)/\Reps K G vs ds:=by
 cases w with
 | fz w =>
   have e:_=D.lst ds:=e
   subst e
   cases w with
   | lst h r=>exact ⟨_,_,rfl,ex.keep h,r⟩
 | lst h r =>
   cases e
   exact ⟨_,_,rfl,h,r⟩
 | dK h r=>cases e
 | dT h r=>cases e
 | lk _ _=>cases e
 | bx _ _ _ _=>cases e
 | dq _=>cases e
 | dA _ _=>cases e
 | ob _ _=>cases e
theorem zsg:Snd2 K rCat zkd where
 run:=λG H x y mx my F F' Q ex w w' q=>by
  unfold zkd at q
  split at q
  ·rename_i s t e1 e2
   obtain ⟨a,vs,rfl,h1,r1⟩:=zdq ex w e1
   obtain ⟨b,us,rfl,h2,r2⟩:=zdq ex w' e2
   exact ⟨a,b,vs,us,rfl,rfl,h1,h2,by rw [r1.length,r2.length]; exact q.1,λp n=>q.2 _ _ (.lst n (r1.append r2))⟩
  ·exact q.elim
 mono:=λa b q q' h k=>by
  unfold zkd at *
  split at k
  ·exact ⟨k.1,h _ k.2⟩
  ·exact k.elim
abbrev zp3 (K:PySem.W.Frag):R2:=λx y H Q=>(λx y H Q=>rI0 (λi j=>V.int (i+j)) x y H Q\/(∃ i j,x=.str i/\y=.str j/\i.length+j.length<=sizeLine/\Q (.str (i++j)) H)) x y H Q\/(λx y H Q=>zuJ K x y H Q\/rCat x y H Q) x y H Q
theorem zah {X:Cx}:OpR X (binaryOp .Add) (zp3 X.K):=OpR.or (OpR.or op_add op_add_str) (OpR.or zuK op_cat)
theorem zsh (a b:M) (q q':M->Prop) (h:∀ m,q m->q' m) (k:zaS a b q):zaS a b q':=by
 unfold zaS zkd at *
 split at k
 ·exact h _ k
 ·exact ⟨k.1,h _ k.2⟩
 ·exact ⟨k.1,h _ k.2⟩
 ·split at k
  ·exact ⟨k.1,h _ k.2⟩
  ·exact k.elim
theorem zan:Snd2 K (zp3 K) zaS:=Snd2.imp (((zp0 (f:=λi j=>.int (i+j)) λ_ _=>rfl).or zse).or (zsf.or zsg)) (λx y q k=>by
 unfold zaS at k
 split at k
 ·exact .inl (.inl ⟨trivial,k⟩)
 ·exact .inl (.inr k)
 ·exact .inr (.inl k)
 ·exact .inr (.inr k)) zsh
def zsi:OP2:=opII (λ_ _=>True) λi j=>.int (i-j)
theorem zp4:Snd2 K (rI0 λi j=>.int (i-j)) zsi:=zp0 λ_ _=>rfl
def zkP:OP2:=opII (λ_ j=>0<j) λi j=>.int (i % j)
theorem zgm:Snd2 K (rI (λ_ j=>0<j) λi j=>.int (i % j)) zkP:=znZ λ_ _=>rfl
def zsj:OP2:=opII CPow λi j=>.int (i ^ j.toNat)
theorem zp5:Snd2 K (rI CPow λi j=>.int (i ^ j.toNat)) zsj:=znZ λ_ _=>rfl
def repD (ds:List D) (k:Int):List D:=(List.replicate k.toNat ds).flatten
theorem zkQ {G:Hp} {vs:List V} {ds:List D} (r:Reps K G vs ds):∀ n:Nat,Reps K G (List.replicate n vs).flatten (List.replicate n ds).flatten
 | 0=>.nil
 | n+1=>by
   rw [ybK,ybK,ybF,ybF]
   exact r.append (zkQ r n)
def zuL (K:PySem.W.Frag):R2:=λx y H Q=>∃ l k xs,x=.ref l/\y=.int k/\SqT K H l xs/\1<=k/\k<=1000/\xs.length<=1000/\(xs=[]\/k=1->Q (.ref l) H)/\(xs≠[]->k≠1->∀ p o,H p=none->TupO (List.replicate k.toNat xs).flatten o->Q (.ref p) (upd H p o))
theorem zoQ (l:Addr) (n:Nat) (dd:Option Addr) (sl:Array (Option Value)) (x:Int) (u:Tok) (c0:(decide (x < -(2 ^ 63))||decide (x>=2 ^ 63))=false) :
 Meets (Builtin.«tuple.__mul__» ⟨[.ref l,.int x u],[]⟩) (λ_ R s=>s.heap.get? l=some { cls:=.type "tuple",dict:=dd,data:=.seq #[] n,slots:=sl }/\R (.ok (.ret (Value.ref l))) s) :=
 .of_wp λprog w A R s h=>by
  obtain ⟨hp,g,d,tk,os⟩:=s
  obtain ⟨hl,h⟩:=h
  have f1:=AutoSeq1.idx_int
  wp_walk using wpAny_loadPart' hl
  repeat (first
   | (refine wpAny_ite_false (yaN (by rw [c0]; exact yat)) ?_; wp_walk using wpAny_loadPart' hl))
  exact ⟨_,rfl,h⟩
theorem zoR (l:Addr) (items:Array Value) (n:Nat) (dd:Option Addr) (sl:Array (Option Value)) (x:Int) (u:Tok) (c0:(decide (x < -(2 ^ 63))||decide (x>=2 ^ 63))=false) (c1:(items.isEmpty||x==1)=true) :
 Meets (Builtin.«tuple.__mul__» ⟨[.ref l,.int x u],[]⟩) (λ_ R s=>s.heap.get? l=some { cls:=.type "tuple",dict:=dd,data:=.seq items n,slots:=sl }/\R (.ok (.ret (Value.ref l))) s) :=
 .of_wp λprog w A R s h=>by
  obtain ⟨hp,g,d,tk,os⟩:=s
  obtain ⟨hl,h⟩:=h
  have f1:=AutoSeq1.idx_int
  wp_walk using wpAny_loadPart' hl
  repeat (first
   | (refine wpAny_ite_false (yaN (by rw [c0]; exact yat)) ?_; wp_walk using wpAny_loadPart' hl)
   | (refine wpAny_ite_true (yaj c1) ?_; wp_walk using wpAny_loadPart' hl))
  exact ⟨_,rfl,h⟩
theorem zp6 (n:Nat) {α:Type} (l:List α):((List.replicate n l).flatten).length=n*l.length:=by
 induction n with
 | zero=>simp
 | succ n ih=>rw [ybK,ybF,yax,ih,Nat.succ_mul,Nat.add_comm]
theorem zuM {X:Cx}:OpR X (binaryOp .Mult) (zuL X.K):=by
 intro pins s σ H x y v u Q I rx ry ⟨l,k,xs,ex,ey,hT,h1,h2,hz,q0,q⟩
 subst ex ey
 cases rx
 obtain ⟨t,rfl⟩:=ry
 obtain ⟨its,r,⟨⟨cls,dd,data,sl⟩,ho,hc,n,hd⟩,hs⟩:=I.tuple hT
 simp only at hc hd
 subst hc hd
 have r1:(decide (k < -(2 ^ 63))||decide (k>=2 ^ 63))=false:=by simp; omega
 by_cases hne:xs=[]
 ·subst hne
  cases r
  refine wpAny_binaryOp_repeat_ref (T := "tuple") (U := "int") (by decide) ⟨_,ho,rfl⟩ (λs'=>typeIs_int s' k t) noFill_tuple_mul F.fills_int_mul F.slot_int_rmul repeat_tuple F.slot_int_index.lookup ?_
  refine call_meets F.slot_int_rmul (typeIs_int s k t) F.entry_int_rmul (F.args_int_rmul_2 _ _) (int_rmul_tuple k t l [].toArray n dd sl) ⟨ho,rfl,⟨_,ho,rfl⟩,?_⟩
  exact call_meets F.slot_tuple_mul ⟨_,ho,rfl⟩ F.entry_tuple_mul (F.args_tuple_mul_2 _ _) (zoQ l n dd sl k t r1) ⟨ho,.ref l,H,I,rfl,q0 (.inl rfl)⟩
 by_cases h1k:k=1
 ·subst h1k
  refine wpAny_binaryOp_repeat_ref (T := "tuple") (U := "int") (by decide) ⟨_,ho,rfl⟩ (λs'=>typeIs_int s' _ t) noFill_tuple_mul F.fills_int_mul F.slot_int_rmul repeat_tuple F.slot_int_index.lookup ?_
  refine call_meets F.slot_int_rmul (typeIs_int s _ t) F.entry_int_rmul (F.args_int_rmul_2 _ _) (int_rmul_tuple _ t l its.toArray n dd sl) ⟨ho,rfl,⟨_,ho,rfl⟩,?_⟩
  exact call_meets F.slot_tuple_mul ⟨_,ho,rfl⟩ F.entry_tuple_mul (F.args_tuple_mul_2 _ _) (zoR l its.toArray n dd sl _ t r1 (by rw [yaZ]; exact .inr rfl)) ⟨ho,.ref l,H,I,rfl,q0 (.inr rfl)⟩
 have hl:=r.length
 have hn:its≠[]:=λe=>hne (List.eq_nil_of_length_eq_zero (by rw [hl,e]; rfl))
 have small:k.toNat*xs.length<=1000000:=ya5 (Nat.mul_le_mul (show k.toNat<=1000 by omega) hz) (by decide)
 have small2:((its.toArray.size:Nat):Int)*k<=1000000:=by
  rw [ybt,← hl]
  refine Int.le_trans (Int.mul_le_mul_of_nonneg_right (show ((xs.length:Nat):Int)<=1000 by omega) (by omega)) ?_
  omega
 have isz:its.toArray.isEmpty=false:=by
  cases its with
  | nil=>exact absurd rfl hn
  | cons a b=>rfl
 have room:(List.foldl (λx1 x2=>x1++x2) #[] (List.replicate k.toNat its.toArray)).size<=sizeLine:=by
  rw [size_rep,ybt,zp6,← hl,sizeLine_eq]
  omega
 have few:Builtin.Tuple.tupleTooMany (((its.toArray.size:Nat):Int)*k)=false:=by
  unfold Builtin.Tuple.tupleTooMany
  exact yaN (by rw [sizeLine_eq]; omega)
 have r2:(its.toArray.isEmpty||k==1)=false:=by simp [isz]; omega
 have r3:(decide (k<=0)||its.toArray.isEmpty)=false:=by simp [isz]; omega
 refine wpAny_binaryOp_repeat_ref (T := "tuple") (U := "int") (by decide) ⟨_,ho,rfl⟩ (λs'=>typeIs_int s' k t) noFill_tuple_mul F.fills_int_mul F.slot_int_rmul repeat_tuple F.slot_int_index.lookup ?_
 refine call_meets F.slot_int_rmul (typeIs_int s k t) F.entry_int_rmul (F.args_int_rmul_2 _ _) (int_rmul_tuple k t l its.toArray n dd sl) ⟨ho,rfl,⟨_,ho,rfl⟩,?_⟩
 refine call_meets F.slot_tuple_mul ⟨_,ho,rfl⟩ F.entry_tuple_mul (F.args_tuple_mul_2 _ _) (tuple_mulW l its.toArray n dd sl k t r1 r2 r3 (by omega) few room) ⟨ho,?_⟩
 rw [size_rep]
 obtain ⟨o,t',I'⟩:=zgM I (xs:=(List.replicate k.toNat xs).flatten) (by rw [zp6,sizeLine_eq]; omega) (r.rep k.toNat)
 exact ⟨.ref s.heap.objs.size,_,I',rfl,q hne h1k _ _ (I.hok.fresh (yaw _)) t'⟩
def zp7:OP2:=λa b q=>match a,b with
 | .fz (.tup ds),.fz (.int k)=>1<=k/\k<=1000/\ds.length<=1000/\q (.fz (.tup (repD ds k)))
 | _,_=>False
def zke:OP2:=λa b q=>match a.d,b.d with
 | .lst ds,.int k=>-(2 ^ 63)<=k/\k<2 ^ 63/\ds.length*k.toNat<=sizeLine/\q (.lst (repD ds k))
 | _,_=>False
theorem zsk:Snd2 K (zuL K) zp7 where
 run:=λG H x y mx my F F' Q ex w w' q=>by
  unfold zp7 at q
  split at q
  ·obtain ⟨a,vs,rfl,h1,r1⟩:=ziV w
   cases w' with
   | fz w' =>
     cases w'
     refine ⟨a,_,vs,rfl,rfl,(h1.mono ex).sqT,q.1,q.2.1,by rw [r1.length]; exact q.2.2.1,λe => ?_,λ_ _ p o n t=>q.2.2.2 _ _ (.tup n t (zkQ r1 _))⟩
     have h1:=h1
     rcases e with e | e
     ·subst e
      cases r1
      refine q.2.2.2 _ _ (.same ?_)
      have:∀ n:Nat,(List.replicate n ([]:List D)).flatten=[]:=λn=>by
       induction n with
       | zero=>rfl
       | succ n ih=>rw [ybK,ybF,ih]; rfl
      unfold repD
      rw [this]
      exact .tup h1 .nil
     ·subst e
      refine q.2.2.2 _ _ (.same ?_)
      have:∀ ds:List D,repD ds 1=ds:=λds=>by
       unfold repD
       show (List.replicate 1 ds).flatten=ds
       rw [List.replicate_one,List.flatten_singleton]
      rw [this]
      exact .tup h1 r1
  ·exact q.elim
 mono:=λa b q q' h k=>by
  unfold zp7 at *
  split at k
  ·exact ⟨k.1,k.2.1,k.2.2.1,h _ k.2.2.2⟩
  ·exact k.elim
theorem zsl:Snd2 K rRep zke where
 run:=λG H x y mx my F F' Q ex w w' q=>by
  unfold zke at q
  split at q
  ·rename_i ds k e1 e2
   obtain ⟨a,vs,rfl,h1,r1⟩:=zdq ex w e1
   have:y=.int k:=by
    cases w' with
    | fz w' =>
      have e2:_=D.int k:=e2
      subst e2
      cases w'
      rfl
    | lst _ _=>cases e2
    | dK _ _=>cases e2
    | dT _ _=>cases e2
    | lk _ _=>cases e2
    | bx _ _ _ _=>cases e2
    | dq _=>cases e2
    | dA _ _=>cases e2
    | ob _ _=>cases e2
   subst this
   exact ⟨a,k,vs,rfl,rfl,h1,q.1,q.2.1,by rw [r1.length]; exact q.2.2.1,λp n=>q.2.2.2 _ _ (.lst n (zkQ r1 _))⟩
  ·exact q.elim
 mono:=λa b q q' h k=>by
  unfold zke at *
  split at k
  ·exact ⟨k.1,k.2.1,k.2.2.1,h _ k.2.2.2⟩
  ·exact k.elim
def zgn:OP2:=λa b q=>match a,b with
 | .fz (.int i),.fz (.int j)=>CMul i j/\q (.fz (.int (i*j)))
 | .fz (.tup ds),.fz (.int k)=>1<=k/\k<=1000/\ds.length<=1000/\q (.fz (.tup (repD ds k)))
 | a,b=>zke a b q
theorem zsm (a b:M) (q q':M->Prop) (h:∀ m,q m->q' m) (k:zgn a b q):zgn a b q':=by
 unfold zgn zke at *
 split at k
 ·exact ⟨k.1,h _ k.2⟩
 ·exact ⟨k.1,k.2.1,k.2.2.1,h _ k.2.2.2⟩
 ·split at k
  ·exact ⟨k.1,k.2.1,k.2.2.1,h _ k.2.2.2⟩
  ·exact k.elim
abbrev zp8 (K:PySem.W.Frag):R2:=λx y H Q=>rI CMul (λi j=>V.int (i*j)) x y H Q\/(λx y H Q=>zuL K x y H Q\/rRep x y H Q) x y H Q
theorem zd7 {X:Cx}:OpR X (binaryOp .Mult) (zp8 X.K):=OpR.or op_mul (OpR.or zuM op_rep)
theorem zgo:Snd2 K (zp8 K) zgn:=Snd2.imp ((znZ (f:=λi j=>.int (i*j)) λ_ _=>rfl).or (zsk.or zsl)) (λx y q k=>by
 unfold zgn at k
 split at k
 ·exact .inl k
 ·exact .inr (.inl k)
 ·exact .inr (.inr k)) zsm
def zuN:OP1:=λa q=>zc4 a λi=>q (.fz (.int (-i)))
theorem zuO:Snd1 K (rU λi=>.int (-i)) zuN where
 run:=λG H x mx F Q ex w q=>by
  obtain ⟨i,rfl,q⟩:=zbs ⟨F,w⟩ q
  exact ⟨i,rfl,q _ _ (.same (.int _))⟩
 mono:=λa q q' h k=>za5 (λi k=>h _ k) k
end
def eqD (x y:D):Bool:=match x.py,y.py with
 | some p,some q=>PyData.eqv p q
 | _,_=>false
def canD (x:D):Bool:=match x.py with
 | some p=>SeqAt.shaped p
 | none=>false
def eqOk:D->D->Bool
 | .int _,.int _=>true
 | .str _,.str _=>true
 | .bl _,.bl _=>true
 | .non,.int _=>true
 | .non,.str _=>true
 | .non,.bl _=>true
 | .int _,.non=>true
 | .str _,.non=>true
 | .bl _,.non=>true
 | .int _,.str _=>true
 | .str _,.int _=>true
 | .bl _,.str _=>true
 | .str _,.bl _=>true
 | .non,.non=>true
 | x,y=>canD x&&canD y
def opEq (neg:Bool):OP2:=λa b q=>eqOk a.d b.d=true/\q (.fz (.bl (if neg then !eqD a.d b.d else eqD a.d b.d)))
abbrev ztM (K:PySem.W.Frag):R2:=λx y H Q=>rEq x y H Q\/rEqD K x y H Q
abbrev ztN (K:PySem.W.Frag):R2:=λx y H Q=>rNe x y H Q\/rNeD K x y H Q
section
variable {X:Cx} {K:PySem.W.Frag}
theorem zes (hu:X.A.units+64<cLine):OpR X (compareOp .Eq) (ztM X.K):=OpR.or op_eq (op_eqD hu)
theorem zc6 (hu:X.A.units+64<cLine):OpR X (compareOp .NotEq) (ztN X.K):=OpR.or op_ne (op_neD hu)
theorem zp9 {x:D} (h:canD x=true):∃ p,x.py=some p/\SeqAt.shaped p=true:=by
 unfold canD at h
 split at h
 ·rename_i p e
  exact ⟨p,e,h⟩
 ·cases h
theorem zn0 {G H:Hp} {x y:V} {a b:M} {F F':List Addr} (ex:Ex G H) (w:Own K G H x a F) (w':Own K G H y b F') (h:eqOk a.d b.d=true) :
 (scal x y=true/\decide (x=y)=eqD a.d b.d)\/∃ d e,Dp K H x d/\Dp K H y e/\SeqAt.shaped d=true/\SeqAt.shaped e=true/\PyData.eqv d e=eqD a.d b.d:=by
 have data:canD a.d=true->canD b.d=true->∃ d e,Dp K H x d/\Dp K H y e/\SeqAt.shaped d=true/\SeqAt.shaped e=true/\PyData.eqv d e=eqD a.d b.d:=λh1 h2=>by
  obtain ⟨p,e1,s1⟩:=zp9 h1
  obtain ⟨q,e2,s2⟩:=zp9 h2
  exact ⟨p,q,w.dp ex e1,w'.dp ex e2,s1,s2,by unfold eqD; rw [e1,e2]⟩
 have fz:∀ {v:V} {m:M} {F:List Addr} {u:V},Own K G H v m F->zc5 m.d=some u->v=u:=λ{v m F u} w e=>by
  cases w with
  | fz w =>
    cases w with
    | non=>cases e; rfl
    | bl _=>cases e; rfl
    | int _=>cases e; rfl
    | str _=>cases e; rfl
    | _=>cases e
  | lst _ _=>cases e
  | dK _ _=>cases e
  | dT _ _=>cases e
  | lk _ _=>cases e
  | bx _ _ _ _=>cases e
  | dq _=>cases e
  | dA _ _=>cases e
  | ob _ _=>cases e
 unfold eqOk at h
 split at h
 case h_15=>exact .inr (data (yaL.mp h).1 (yaL.mp h).2)
 all_goals
  rename_i e1 e2
  have h1:=fz (u:=_) w (by rw [e1]; rfl)
  have h2:=fz (u:=_) w' (by rw [e2]; rfl)
  subst h1 h2
  rw [e1,e2]
  refine .inl ⟨rfl,?_⟩
  first
   | rfl
   | (simp only [eqD,D.py,PyData.eqv]; first | rfl | (rw [ybg]; simp))
theorem zqa (neg:Bool) (a b:M) (q q':M->Prop) (h:∀ m,q m->q' m) (k:opEq neg a b q):opEq neg a b q':=⟨k.1,h _ k.2⟩
theorem zhV:Snd2 K (ztM K) (opEq false) where
 run:=λG H x y mx my F F' Q ex w w' q=>by
  rcases zn0 ex w w' q.1 with ⟨h1,h2⟩ | ⟨d,e,h1,h2,h3,h4,h5⟩
  ·refine .inl ⟨h1,?_⟩
   rw [h2]
   exact q.2 _ _ (.same (.bl _))
  ·refine .inr ⟨d,e,h1,h2,h3,h4,?_⟩
   rw [h5]
   exact q.2 _ _ (.same (.bl _))
 mono:=zqa false
theorem zfs:Snd2 K (ztN K) (opEq true) where
 run:=λG H x y mx my F F' Q ex w w' q=>by
  rcases zn0 ex w w' q.1 with ⟨h1,h2⟩ | ⟨d,e,h1,h2,h3,h4,h5⟩
  ·refine .inl ⟨h1,?_⟩
   rw [h2]
   exact q.2 _ _ (.same (.bl _))
  ·refine .inr ⟨d,e,h1,h2,h3,h4,?_⟩
   rw [h5]
   exact q.2 _ _ (.same (.bl _))
 mono:=zqa true
end
def ltD (x y:D):Bool:=match x.py,y.py with
 | some p,some q=>PySem.W.dataLt p q
 | _,_=>false
def zuP (x y:D):Bool:=match x.py,y.py with
 | some p,some q=>PySem.W.alike p q&&decide (p.depth<=60)&&(match p with
   | .none=>false
   | _=>true)
 | _,_=>false
inductive Od where
 | lt | le | gt | ge
def Od.op:Od->CmpOp
 | .lt=>.Lt
 | .le=>.LtE
 | .gt=>.Gt
 | .ge=>.GtE
def Od.ans (o:Od) (lt gt:Bool):Bool:=match o with
 | .lt=>lt
 | .le => !gt
 | .gt=>gt
 | .ge => !lt
def Od.int (o:Od) (i j:Int):Bool:=match o with
 | .lt=>decide (i<j)
 | .le=>decide (i<=j)
 | .gt=>decide (j<i)
 | .ge=>decide (j<=i)
def zen (o:Od):OP2:=λa b q=>match a.d,b.d with
 | .int i,.int j=>q (.fz (.bl (o.int i j)))
 | .str s,.str t=>q (.fz (.bl (o.ans (decide (s.cps.toList<t.cps.toList)) (decide (t.cps.toList<s.cps.toList)))))
 | x,y=>zuP x y=true/\q (.fz (.bl (o.ans (ltD x y) (ltD y x))))
def rOrdI (o:Od):R2:=rI0 λi j=>.bl (o.int i j)
def rOrdS (o:Od):R2:=λx y H Q=>∃ i j,x=.str i/\y=.str j/\Q (.bl (o.ans (decide (i.cps.toList<j.cps.toList)) (decide (j.cps.toList<i.cps.toList)))) H
def rOrdD (K:PySem.W.Frag) (o:Od):R2:=λx y H Q=>∃ d e,Dp K H x d/\Dp K H y e/\PySem.W.alike d e=true/\d≠.none/\d.depth<=60/\Q (.bl (o.ans (PySem.W.dataLt d e) (PySem.W.dataLt e d))) H
section
variable {X:Cx} {K:PySem.W.Frag}
theorem zuQ (o:Od):OpR X (compareOp o.op) (rOrdI o):=by
 cases o
 ·exact op_lt
 ·exact op_le
 ·exact op_gt
 ·exact op_ge
theorem zuR (o:Od):OpR X (compareOp o.op) (rOrdS o):=by
 cases o
 ·exact op_lt_str
 ·exact op_le_str
 ·exact op_gt_str
 ·exact op_ge_str
theorem zuS (hu:X.A.units+64<cLine) (o:Od):OpR X (compareOp o.op) (rOrdD X.K o):=by
 intro pins s σ H x y v u Q I rx ry h
 obtain ⟨d,e,hd,he,al,nn,dp,q⟩:=h
 obtain ⟨as,r1⟩:=Dp.reads I d x v hd rx
 obtain ⟨bs,r2⟩:=Dp.reads I e y u he ry
 have room:X.A.units+min d.depth e.depth<cLine:=by
  have:=Nat.min_le_left d.depth e.depth
  omega
 cases o
 ·exact PySem.W.lt_data r1 r2 al nn room ⟨.bl _,H,I,rfl,q⟩
 ·exact PySem.W.le_data r1 r2 al nn room ⟨.bl _,H,I,rfl,q⟩
 ·exact PySem.W.gt_data r1 r2 al nn room ⟨.bl _,H,I,rfl,q⟩
 ·exact PySem.W.ge_data r1 r2 al nn room ⟨.bl _,H,I,rfl,q⟩
abbrev zqb (K:PySem.W.Frag) (o:Od):R2:=λx y H Q=>rOrdI o x y H Q\/(λx y H Q=>rOrdS o x y H Q\/rOrdD K o x y H Q) x y H Q
theorem zbd (hu:X.A.units+64<cLine) (o:Od):OpR X (compareOp o.op) (zqb X.K o):=OpR.or (zuQ o) (OpR.or (zuR o) (zuS hu o))
theorem zaY {G H:Hp} {v:V} {m:M} {F:List Addr} {u:V} (w:Own K G H v m F) (e:zc5 m.d=some u):v=u:=by
 cases w with
 | fz w =>
   cases w with
   | non=>cases e; rfl
   | bl _=>cases e; rfl
   | int _=>cases e; rfl
   | str _=>cases e; rfl
   | _=>cases e
 | lst _ _=>cases e
 | dK _ _=>cases e
 | dT _ _=>cases e
 | lk _ _=>cases e
 | bx _ _ _ _=>cases e
 | dq _=>cases e
 | dA _ _=>cases e
 | ob _ _=>cases e
theorem zce (o:Od):Snd2 K (zqb K o) (zen o) where
 run:=λG H x y mx my F F' Q ex w w' q=>by
  unfold zen at q
  split at q
  ·rename_i i j e1 e2
   have h1:=zaY (u:=.int i) w (by rw [e1]; rfl)
   have h2:=zaY (u:=.int j) w' (by rw [e2]; rfl)
   subst h1 h2
   exact .inl ⟨i,j,rfl,rfl,q _ _ (.same (.bl _))⟩
  ·rename_i i j e1 e2
   have h1:=zaY (u:=.str i) w (by rw [e1]; rfl)
   have h2:=zaY (u:=.str j) w' (by rw [e2]; rfl)
   subst h1 h2
   exact .inr (.inl ⟨i,j,rfl,rfl,q _ _ (.same (.bl _))⟩)
  ·obtain ⟨h,q⟩:=q
   unfold zuP at h
   split at h
   ·rename_i p r e1 e2
    obtain ⟨h,h3⟩:=yaL.mp h
    obtain ⟨h1,h2⟩:=yaL.mp h
    refine .inr (.inr ⟨p,r,w.dp ex e1,w'.dp ex e2,h1,(λz=>by rw [z] at h3; cases h3),yai h2,?_⟩)
    have t1:ltD mx.d my.d=PySem.W.dataLt p r:=by unfold ltD; rw [e1,e2]
    have t2:ltD my.d mx.d=PySem.W.dataLt r p:=by unfold ltD; rw [e1,e2]
    rw [t1,t2] at q
    exact q _ _ (.same (.bl _))
   ·cases h
 mono:=λa b q q' h k=>by
  unfold zen at *
  split at k
  ·exact h _ k
  ·exact h _ k
  ·exact ⟨k.1,h _ k.2⟩
end
def zqc:D->Bool
 | .non=>true
 | _=>false
def opIs (neg:Bool):OP2:=λa b q=>match b with
 | .fz .non=>(match a.d with
   | .opq=>False
   | _=>True)/\q (.fz (.bl (if neg then !zqc a.d else zqc a.d)))
 | _=>False
section
variable {X:Cx} {K:PySem.W.Frag}
theorem zqd {G H:Hp} {x:V} {m:M} {F:List Addr} (w:Own K G H x m F) (h:m.d≠.opq):decide (x=.non)=zqc m.d:=by
 cases w with
 | fz w =>
   cases w with
   | opq _=>exact absurd rfl h
   | _=>rfl
 | lst _ _=>rfl
 | dK _ _=>rfl
 | dT _ _=>rfl
 | lk _ _=>exact absurd rfl h
 | bx _ _ _ _=>exact absurd rfl h
 | dq _=>exact absurd rfl h
 | dA _ _=>rfl
 | ob _ _=>exact absurd rfl h
theorem zqe (neg:Bool) (a b:M) (q q':M->Prop) (h:∀ m,q m->q' m) (k:opIs neg a b q):opIs neg a b q':=by
 unfold opIs at *
 split at k
 ·exact ⟨k.1,h _ k.2⟩
 ·exact k.elim
theorem zuT:Snd2 K (λx y H Q=>y=.non/\Q (.bl (decide (x=.non))) H) (opIs false) where
 run:=λG H x y mx my F F' Q ex w w' q=>by
  unfold opIs at q
  split at q
  ·have h2:=zaY (u:=.non) w' rfl
   refine ⟨h2,?_⟩
   rw [zqd w λz=>by rw [z] at q; exact q.1]
   exact q.2 _ _ (.same (.bl _))
  ·exact q.elim
 mono:=zqe false
theorem zsn:Snd2 K (λx y H Q=>y=.non/\Q (.bl (!decide (x=.non))) H) (opIs true) where
 run:=λG H x y mx my F F' Q ex w w' q=>by
  unfold opIs at q
  split at q
  ·have h2:=zaY (u:=.non) w' rfl
   refine ⟨h2,?_⟩
   rw [zqd w λz=>by rw [z] at q; exact q.1]
   exact q.2 _ _ (.same (.bl _))
  ·exact q.elim
 mono:=zqe true
end
def keyK:D->Option Key
 | .int i=>some (.inl i)
 | .str s=>some (.inr s)
 | _=>none
def zso:List D->Option (List Key)
 | []=>some []
 | d::ds=>match keyK d,zso ds with
   | some k,some ks=>some (k::ks)
   | _,_=>none
def keyT:D->Option (List Key)
 | .tup (.int i::ds)=>zso (.int i::ds)
 | _=>none
section
variable {κ:Type} [DecidableEq κ]
def getK (kvs:List (κ×D)) (k:κ):Option D:=(kvs.find? λkv=>decide (kv.1=k)).map (·.2)
def setK (kvs:List (κ×D)) (k:κ) (v:D):List (κ×D):=if (kvs.any λkv=>decide (kv.1=k))=true then kvs.map (λkv=>if kv.1=k then (kv.1,v) else kv) else kvs++[(k,v)]
end
section
variable {K:PySem.W.Frag} {G H:Hp}
theorem ziA {v:V} {m:M} {F:List Addr} {k:Key} (w:Own K G H v m F) (e:keyK m.d=some k):v=kV k:=by
 cases w with
 | fz w =>
   cases w with
   | int i=>cases e; rfl
   | str i=>cases e; rfl
   | _=>cases e
 | lst _ _=>cases e
 | dK _ _=>cases e
 | dT _ _=>cases e
 | lk _ _=>cases e
 | bx _ _ _ _=>cases e
 | dq _=>cases e
 | dA _ _=>cases e
 | ob _ _=>cases e
theorem zkf:∀ {vs:List V} {ds:List D} {ks:List Key},Reps K G vs ds->zso ds=some ks->vs=ks.map kV
 | _,_,_,.nil,e=>by cases e; rfl
 | _,_,_,.cons (d:=d) (ds:=ds) h r,e=>by
   unfold zso at e
   split at e
   ·rename_i k ks e1 e2
    cases e
    have h1:=ziA (H:=G) (Own.fz h) e1
    rw [h1,zkf r e2]
    rfl
   ·cases e
theorem zkR {v:V} {m:M} {F:List Addr} {ks:List Key} (ex:Ex G H) (w:Own K G H v m F) (e:keyT m.d=some ks):∃ b,v=.ref b/\H b=some (.tup (ks.map kV)):=by
 cases w with
 | fz w =>
   cases w with
   | tup h r =>
     rename_i a vs ds
     have e:keyT (.tup ds)=some ks:=e
     unfold keyT at e
     split at e
     ·rename_i i ds' e0
      cases e0
      have ev:=zkf r e
      refine ⟨_,rfl,?_⟩
      rw [← ev]
      refine (h.mono ex).key ?_
      cases r with
      | cons h1 r1 =>
        cases h1
        cases ks with
        | nil=>cases ev
        | cons k ks =>
          have e2:=(List.cons.inj ev).2
          show List.all _ ztE=true
          rw [e2,yb4,yam]
          intro k _
          cases k<;>rfl
     ·cases e
   | _=>cases e
 | lst _ _=>cases e
 | dK _ _=>cases e
 | dT _ _=>cases e
 | lk _ _=>cases e
 | bx _ _ _ _=>cases e
 | dq _=>cases e
 | dA _ _=>cases e
 | ob _ _=>cases e
theorem zkS {k:Key}:∀ {vs:List (Key×V)} {ds:List (Key×D)},RepK K G vs ds->(∀ d,getK ds k=some d->∃ v,valV vs k=some v/\Rep K G v d)/\(getK ds k=none->valV vs k=none)
 | _,_,.nil=>⟨(λd e=>nomatch e),λ_=>rfl⟩
 | _,_,.cons (k:=k') (v:=v) (d:=d) (vs:=vs) (ds:=ds) h r=>by
   obtain ⟨h1,h2⟩:=zkS r (k:=k)
   by_cases z:k'=k
   ·subst z
    refine ⟨λd' e => ?_,λe => ?_⟩
    ·simp only [getK,ybo,ybY,ycp,ycc] at e
     subst e
     exact ⟨v,valV_pos rfl,h⟩
    ·simp [getK,ybo] at e
   ·have eg:getK ((k',d)::ds) k=getK ds k:=by simp only [getK,ybo,z,ybE]
    have ev:valV ((k',v)::vs) k=valV vs k:=valV_neg z
    rw [eg,ev]
    exact ⟨h1,h2⟩
theorem zkT {k:List Key}:∀ {vs:List (List Key×V)} {ds:List (List Key×D)},RepT K G vs ds->(∀ d,getK ds k=some d->∃ v,valV vs k=some v/\Rep K G v d)/\(getK ds k=none->valV vs k=none)
 | _,_,.nil=>⟨(λd e=>nomatch e),λ_=>rfl⟩
 | _,_,.cons (k:=k') (v:=v) (d:=d) (vs:=vs) (ds:=ds) h r=>by
   obtain ⟨h1,h2⟩:=zkT r (k:=k)
   by_cases z:k'=k
   ·subst z
    refine ⟨λd' e => ?_,λe => ?_⟩
    ·simp only [getK,ybo,ybY,ycp,ycc] at e
     subst e
     exact ⟨v,valV_pos rfl,h⟩
    ·simp [getK,ybo] at e
   ·have eg:getK ((k',d)::ds) k=getK ds k:=by simp only [getK,ybo,z,ybE]
    have ev:valV ((k',v)::vs) k=valV vs k:=valV_neg z
    rw [eg,ev]
    exact ⟨h1,h2⟩
theorem zmZ {k:Key} {vs:List (Key×V)} {ds:List (Key×D)} (r:RepK K G vs ds):(valV vs k).isSome=(getK ds k).isSome:=by
 obtain ⟨h1,h2⟩:=zkS r (k:=k)
 cases e:getK ds k with
 | none =>
   rw [h2 e]
   rfl
 | some d =>
   obtain ⟨v,e1,_⟩:=h1 d e
   rw [e1]
   rfl
theorem zm0 {k:List Key} {vs:List (List Key×V)} {ds:List (List Key×D)} (r:RepT K G vs ds):(valV vs k).isSome=(getK ds k).isSome:=by
 obtain ⟨h1,h2⟩:=zkT r (k:=k)
 cases e:getK ds k with
 | none =>
   rw [h2 e]
   rfl
 | some d =>
   obtain ⟨v,e1,_⟩:=h1 d e
   rw [e1]
   rfl
theorem zn1 {k:Key}:∀ {vs:List (Key×V)} {ds:List (Key×D)},RepK K G vs ds->(vs.any λkv=>decide (kv.1=k))=ds.any λkv=>decide (kv.1=k)
 | _,_,.nil=>rfl
 | _,_,.cons h r=>by rw [ybP,ybP,zn1 r]
theorem zn2 {k:List Key}:∀ {vs:List (List Key×V)} {ds:List (List Key×D)},RepT K G vs ds->(vs.any λkv=>decide (kv.1=k))=ds.any λkv=>decide (kv.1=k)
 | _,_,.nil=>rfl
 | _,_,.cons h r=>by rw [ybP,ybP,zn2 r]
theorem zkU {k:Key} {v:V} {d:D} (h:Rep K G v d):∀ {vs:List (Key×V)} {ds:List (Key×D)},RepK K G vs ds->RepK K G (vs.map λkv=>if kv.1=k then (kv.1,v) else kv) (ds.map λkv=>if kv.1=k then (kv.1,d) else kv)
 | _,_,.nil=>.nil
 | _,_,.cons (k:=k') h' r=>by
   rw [yau,yau]
   by_cases z:k'=k
   ·rw [yaM z,yaM z]
    exact .cons h (zkU h r)
   ·rw [yaH z,yaH z]
    exact .cons h' (zkU h r)
theorem zkV {k:List Key} {v:V} {d:D} (h:Rep K G v d):∀ {vs:List (List Key×V)} {ds:List (List Key×D)},RepT K G vs ds->RepT K G (vs.map λkv=>if kv.1=k then (kv.1,v) else kv) (ds.map λkv=>if kv.1=k then (kv.1,d) else kv)
 | _,_,.nil=>.nil
 | _,_,.cons (k:=k') h' r=>by
   rw [yau,yau]
   by_cases z:k'=k
   ·rw [yaM z,yaM z]
    exact .cons h (zkV h r)
   ·rw [yaH z,yaH z]
    exact .cons h' (zkV h r)
theorem zlM {k:Key} {v:V} {d:D} (h:Rep K G v d):∀ {vs:List (Key×V)} {ds:List (Key×D)},RepK K G vs ds->RepK K G (vs++[(k,v)]) (ds++[(k,d)])
 | _,_,.nil=>.cons h .nil
 | _,_,.cons h' r=>.cons h' (zlM h r)
theorem zlN {k:List Key} {v:V} {d:D} (h:Rep K G v d):∀ {vs:List (List Key×V)} {ds:List (List Key×D)},RepT K G vs ds->RepT K G (vs++[(k,v)]) (ds++[(k,d)])
 | _,_,.nil=>.cons h .nil
 | _,_,.cons h' r=>.cons h' (zlN h r)
theorem zsp {k:Key} {v:V} {d:D} (h:Rep K G v d) {vs:List (Key×V)} {ds:List (Key×D)} (r:RepK K G vs ds):RepK K G (putK vs k v) (setK ds k d):=by
 unfold putK setK
 rw [zn1 r]
 split
 ·exact zkU h r
 ·exact zlM h r
theorem zsq {k:List Key} {v:V} {d:D} (h:Rep K G v d) {vs:List (List Key×V)} {ds:List (List Key×D)} (r:RepT K G vs ds):RepT K G (putK vs k v) (setK ds k d):=by
 unfold putK setK
 rw [zn2 r]
 split
 ·exact zkV h r
 ·exact zlN h r
theorem zqf {x:V} {m:M} {ds:List (Key×D)} {F:List Addr} (ex:Ex G H) (w:Own K G H x m F) (e:m.d=.dK ds):∃ a vs,x=.ref a/\Rd H a (.dK vs)/\RepK K G vs ds:=by
 cases w with
 | fz w =>
   have e:_=D.dK ds:=e
   subst e
   cases w with
   | dK h r=>exact ⟨_,_,rfl,ex.rd h,r⟩
 | dK h r =>
   cases e
   exact ⟨_,_,rfl,.inl h,r⟩
 | lst h r=>cases e
 | dT h r=>cases e
 | lk _ _=>cases e
 | bx _ _ _ _=>cases e
 | dq _=>cases e
 | dA w r =>
   cases e
   exact ⟨_,_,rfl,.inl w,r⟩
 | ob _ _=>cases e
theorem zqg {x:V} {m:M} {ds:List (List Key×D)} {F:List Addr} (ex:Ex G H) (w:Own K G H x m F) (e:m.d=.dT ds):∃ a vs,x=.ref a/\Rd H a (.dT vs)/\RepT K G vs ds:=by
 cases w with
 | fz w =>
   have e:_=D.dT ds:=e
   subst e
   cases w with
   | dT h r=>exact ⟨_,_,rfl,ex.rd h,r⟩
 | dT h r =>
   cases e
   exact ⟨_,_,rfl,.inl h,r⟩
 | lk _ _=>cases e
 | bx _ _ _ _=>cases e
 | dq _=>cases e
 | dA _ _=>cases e
 | ob _ _=>cases e
 | lst h r=>cases e
 | dK h r=>cases e
theorem ziW {x:V} {m:M} {ds:List D} {F:List Addr} (ex:Ex G H) (w:Own K G H x m F) (e:m.d=.tup ds):∃ a vs,x=.ref a/\TupAt H a vs/\Reps K G vs ds:=by
 cases w with
 | fz w =>
   have e:_=D.tup ds:=e
   subst e
   cases w with
   | tup h r=>exact ⟨_,_,rfl,h.mono ex,r⟩
 | lst h r=>cases e
 | dK h r=>cases e
 | dT h r=>cases e
 | lk _ _=>cases e
 | bx _ _ _ _=>cases e
 | dq _=>cases e
 | dA _ _=>cases e
 | ob _ _=>cases e
theorem zqh {x:V} {m:M} {ns:List Int} {F:List Addr} (ex:Ex G H) (w:Own K G H x m F) (e:m.d=.scr ns):∃ a,x=.ref a/\SqL K H a (ns.map V.int):=by
 cases w with
 | fz w =>
   have e:_=D.scr ns:=e
   subst e
   cases w with
   | scr h=>exact ⟨_,rfl,ex.sqL h⟩
 | lst h r=>cases e
 | dK h r=>cases e
 | dT h r=>cases e
 | lk _ _=>cases e
 | bx _ _ _ _=>cases e
 | dq _=>cases e
 | dA _ _=>cases e
 | ob _ _=>cases e
end
def zd8:List D->Option (List V)
 | []=>some []
 | d::ds=>match zc5 d,zd8 ds with
   | some v,some vs=>some (v::vs)
   | _,_=>none
def xorB (neg b:Bool):Bool:=if neg then !b else b
def inOk (p:PyData) (ps:List PyData):Bool:=p.canLay0&&PyData.canLayAll0 ps&&decide (p.depth<=60)
def zkW (neg:Bool) (x:D) (ds:List D) (q:M->Prop):Prop:=match zc5 x,zd8 ds with
 | some v,some vs=>q (.fz (.bl (xorB neg (inV v vs))))
 | _,_=>match x.py,D.pys ds with
   | some p,some ps=>inOk p ps=true/\q (.fz (.bl (xorB neg (ps.any λz=>PyData.eqv z p))))
   | _,_=>False
def opIn (neg:Bool):OP2:=λa b q=>match b.d with
 | .str t=>match a.d with
   | .str s=>(match s.cps.toList with
     | [c]=>q (.fz (.bl (xorB neg (decide (c∈t.cps.toList)))))
     | _=>False)
   | _=>False
 | .dK kvs=>match keyK a.d with
   | some k=>q (.fz (.bl (xorB neg (getK kvs k).isSome)))
   | none=>False
 | .dT kvs=>match keyT a.d with
   | some k=>q (.fz (.bl (xorB neg (getK kvs k).isSome)))
   | none=>False
 | .tup ds=>zkW neg a.d ds q
 | .lst ds=>zkW neg a.d ds q
 | _=>False
def inCmp (neg:Bool):CmpOp:=if neg then .NotIn else .In
abbrev rInSg (neg:Bool):R2:=λx y H Q=>∃ (c:Nat) (z:Str),x=.str ⟨#[c]⟩/\y=.str z/\Q (.bl (xorB neg (decide (c∈z.cps.toList)))) H
abbrev rInDc (neg:Bool):R2:=λx y H Q=>∃ a o,y=.ref a/\DGet H a x o/\Q (.bl (xorB neg o.isSome)) H
abbrev rInFl (K:PySem.W.Frag) (neg:Bool):R2:=λx y H Q=>∃ p xs,y=.ref p/\(SqL K H p xs\/SqT K H p xs)/\flatV x=true/\xs.all flatV=true/\Q (.bl (xorB neg (inV x xs))) H
abbrev rInDt (K:PySem.W.Frag) (neg:Bool):R2:=λx y H Q=>∃ d ds,Dp K H x d/\(Dp K H y (.list ds)\/Dp K H y (.tuple ds))/\inOk d ds=true/\Q (.bl (xorB neg (ds.any λz=>PyData.eqv z d))) H
abbrev zqi (K:PySem.W.Frag) (neg:Bool):R2:=λx y H Q=>(λx y H Q=>rInSg neg x y H Q\/rInDc neg x y H Q) x y H Q\/(λx y H Q=>rInFl K neg x y H Q\/rInDt K neg x y H Q) x y H Q
section
variable {X:Cx} {K:PySem.W.Frag}
theorem ze0 (hu:X.A.units+64<cLine) (neg:Bool):OpR X (compareOp (inCmp neg)) (zqi X.K neg):=by
 refine OpR.or (OpR.or ?_ ?_) (OpR.or ?_ ?_)
 ·cases neg
  ·exact op_in_sign
  ·exact op_notIn_sign
 ·intro pins s σ H x y v u Q I rx ry ⟨a,o,ey,g,q⟩
  subst ey
  obtain rfl:u=Value.ref a:=ry
  cases neg
  ·exact d_in (by omega) I g rx λs' I'=>⟨.bl _,H,I',rfl,q⟩
  ·exact d_notIn (by omega) I g rx λs' I'=>⟨.bl _,H,I',rfl,q⟩
 ·cases neg
  ·exact op_in_seq
  ·exact op_notIn_seq
 ·intro pins s σ H x y v u Q I rx ry ⟨d,ds,hd,he,ok,q⟩
  obtain ⟨as,r1⟩:=Dp.reads I d x v hd rx
  unfold inOk at ok
  obtain ⟨ok,o3⟩:=yaL.mp ok
  obtain ⟨o1,o2⟩:=yaL.mp ok
  have o3:d.depth<=60:=yai o3
  have room:X.A.units+1+min (PyData.depthAll ds) d.depth<cLine:=by
   have:=Nat.min_le_right (PyData.depthAll ds) d.depth
   omega
  rcases he with he | he
  ·obtain ⟨bs,r2⟩:=Dp.reads I (.list ds) y u he ry
   cases neg
   ·exact SeqAt.in_list_reads r2 r1 o2 o1 room ⟨.bl _,H,I,rfl,q⟩
   ·exact SeqAt.notIn_list_reads r2 r1 o2 o1 room ⟨.bl _,H,I,rfl,q⟩
  ·obtain ⟨bs,r2⟩:=Dp.reads I (.tuple ds) y u he ry
   cases neg
   ·exact SeqAt.in_tuple_reads r2 r1 o2 o1 room ⟨.bl _,H,I,rfl,q⟩
   ·exact SeqAt.notIn_tuple_reads r2 r1 o2 o1 room ⟨.bl _,H,I,rfl,q⟩
theorem zkg {d:D} {v:V} (e:zc5 d=some v):flatV v=true:=by
 cases d with
 | int i=>cases e; rfl
 | bl i=>cases e; rfl
 | str i=>cases e; rfl
 | non=>cases e; rfl
 | _=>cases e
theorem zhW {G:Hp}:∀ {vs:List V} {ds:List D} {us:List V},Reps K G vs ds->zd8 ds=some us->vs=us/\us.all flatV=true
 | _,_,_,.nil,e=>by cases e; exact ⟨rfl,rfl⟩
 | _,_,_,.cons (d:=d) (ds:=ds) h r,e=>by
   unfold zd8 at e
   split at e
   ·rename_i u us e1 e2
    cases e
    have h1:=zaY (H:=G) (Own.fz h) e1
    obtain ⟨h2,h3⟩:=zhW r e2
    refine ⟨by rw [h1,h2],?_⟩
    rw [ybQ,h3,zkg e1]
    rfl
   ·cases e
theorem zn3 {neg:Bool} {x:D} {ds:List D} {q q':M->Prop} (h:∀ m,q m->q' m) (k:zkW neg x ds q):zkW neg x ds q':=by
 unfold zkW at *
 split at k
 ·exact h _ k
 ·split at k
  ·exact ⟨k.1,h _ k.2⟩
  ·exact k.elim
theorem ziX (neg:Bool):Snd2 K (zqi K neg) (opIn neg) where
 run:=λG H x y mx my F F' Q ex w w' q=>by
  have seq:∀ {p:Addr} {vs:List V} {ds:List D},(SqL K H p vs\/SqT K H p vs)->Reps K G vs ds->zkW neg mx.d ds (λm=>∀ v H',zhj K G H m v H'->Q v H')->(∀ ps,DpAll K H vs ps->Dp K H (.ref p) (.list ps)\/Dp K H (.ref p) (.tuple ps))->zqi K neg x (.ref p) H Q:=by
   intro p vs ds hs rs q dp
   unfold zkW at q
   split at q
   ·rename_i v us e1 e2
    have h1:=zaY w e1
    obtain ⟨h2,h3⟩:=zhW rs e2
    subst h1 h2
    exact .inr (.inl ⟨p,_,rfl,hs,zkg e1,h3,q _ _ (.same (.bl _))⟩)
   ·split at q
    ·rename_i d ps e1 e2
     exact .inr (.inr ⟨d,ps,w.dp ex e1,dp _ (Reps.dp ex rs e2),q.1,q.2 _ _ (.same (.bl _))⟩)
    ·exact q.elim
  unfold opIn at q
  split at q
  ·rename_i t e2
   have h2:=zaY (u:=.str t) w' (by rw [e2]; rfl)
   subst h2
   split at q
   ·rename_i s e1
    have h1:=zaY (u:=.str s) w (by rw [e1]; rfl)
    subst h1
    split at q
    ·rename_i c ec
     refine .inl (.inl ⟨c,t,?_,rfl,q _ _ (.same (.bl _))⟩)
     congr 1
     exact PySem.W.str_of_cps ec
    ·exact q.elim
   ·exact q.elim
  ·rename_i kvs e2
   obtain ⟨a,vs,rfl,h1,r1⟩:=zqf ex w' e2
   split at q
   ·rename_i k ek
    refine .inl (.inr ⟨a,_,rfl,.inl ⟨vs,k,h1,ziA w ek,rfl⟩,?_⟩)
    rw [zmZ r1]
    exact q _ _ (.same (.bl _))
   ·exact q.elim
  ·rename_i kvs e2
   obtain ⟨a,vs,rfl,h1,r1⟩:=zqg ex w' e2
   split at q
   ·rename_i k ek
    obtain ⟨b,eb,hb⟩:=zkR ex w ek
    refine .inl (.inr ⟨a,_,rfl,.inr ⟨vs,k,b,h1,eb,hb,rfl⟩,?_⟩)
    rw [zm0 r1]
    exact q _ _ (.same (.bl _))
   ·exact q.elim
  ·rename_i ds e2
   obtain ⟨a,vs,rfl,h1,r1⟩:=ziW ex w' e2
   exact seq (.inr h1.sqT) r1 q λps dp=>.inr (.tup h1.sqT dp)
  ·rename_i ds e2
   obtain ⟨a,vs,rfl,h1,r1⟩:=zdq ex w' e2
   exact seq (.inl (.of h1)) r1 q λps dp=>.inl (.lst (.of h1) dp)
  ·exact q.elim
 mono:=λa b q q' h k=>by
  unfold opIn at *
  split at k
  ·split at k
   ·split at k
    ·exact h _ k
    ·exact k.elim
   ·exact k.elim
  ·split at k
   ·exact h _ k
   ·exact k.elim
  ·split at k
   ·exact h _ k
   ·exact k.elim
  ·exact zn3 h k
  ·exact zn3 h k
  ·exact k.elim
end
def opIx:OP2:=λa b q=>match a.d with
 | .tup ds=>zc4 b λi=>match atI ds i with
   | some d=>q (.fz d)
   | none=>False
 | .lst ds=>zc4 b λi=>match atI ds i with
   | some d=>q (.fz d)
   | none=>False
 | .scr ns=>zc4 b λi=>match atI ns i with
   | some n=>q (.fz (.int n))
   | none=>False
 | .str s=>zc4 b λi=>match atI s.cps.toList i with
   | some c=>s.length<=sizeLine/\q (.fz (sgn c))
   | none=>False
 | .dK kvs=>match keyK b.d with
   | some k=>(match getK kvs k with
     | some d=>q (.fz d)
     | none=>False)
   | none=>False
 | .dT kvs=>match keyT b.d with
   | some k=>(match getK kvs k with
     | some d=>q (.fz d)
     | none=>False)
   | none=>False
 | _=>False
abbrev rIxDc:R2:=λx y H Q=>∃ a v,x=.ref a/\DGet H a y (some v)/\Q v H
abbrev ztO (K:PySem.W.Frag):R2:=λx y H Q=>rIx K x y H Q\/rIxDc x y H Q
section
variable {X:Cx} {K:PySem.W.Frag}
theorem zuU (hu:X.A.units+64<cLine):IxR X rIxDc:=by
 intro value slice pins s σ H x y v u Q I rx ry ⟨a,z,ex,g,q⟩ hs
 subst ex
 obtain rfl:v=Value.ref a:=rx
 have tI:=dict_typeIs I g
 unfold subscriptTail
 refine wpAny_bind ?_
 rw [getitemInPython_of_ne tI.not_modules]
 refine wpAny_bind (wpAny_specialOf tI PySem.F.slot_dict_getitem.lookup ?_)
 have fin:wpAny (model X.prog X.w) X.A (subscripted slice false (.ref a) u) (λr s₃=>wpAny (model X.prog X.w) X.A (letTemporaryGo value (.ref a) r >>= λ_=>pure r) (EP X pins σ Q) X.xe s₃) X.xe s:=by
  rw [hs]
  exact wpAny_operating (d_getItem (by omega) I g ry λw' s' I' rw'=>wpAny_bind (wpAny_letTemporaryGo (wpAny_pure ⟨z,H,I',rw',q⟩)))
 first
  | exact wpAny_pure (wpAny_bind fin)
  | exact wpAny_bind (wpAny_pure (wpAny_bind fin))
  | exact wpAny_bind fin
theorem ix_all (hu:X.A.units+64<cLine):IxR X (ztO X.K):=IxR.or ix_seq (zuU hu)
theorem zuV {α β:Type} (f:α->β) (xs:List α) (i:Int):atI (xs.map f) i=(atI xs i).map f:=by
 unfold atI
 rw [yac]
 cases ixN xs.length i with
 | none=>rfl
 | some j=>simp
theorem zn4 {G:Hp} {vs:List V} {ds:List D} {i:Int} {d:D} (r:Reps K G vs ds) (e:atI ds i=some d):∃ v,atI vs i=some v/\Rep K G v d:=by
 unfold atI at *
 rw [r.length]
 cases q:ixN ds.length i with
 | none=>rw [q] at e; cases e
 | some j =>
   rw [q] at e
   exact r.at e
theorem snd_ix:Snd2 K (ztO K) opIx where
 run:=λG H x y mx my F F' Q ex w w' q=>by
  unfold opIx at q
  split at q
  ·rename_i ds e
   obtain ⟨a,vs,rfl,h1,r1⟩:=ziW ex w e
   obtain ⟨i,rfl,q⟩:=zbs ⟨F',w'⟩ q
   split at q
   ·rename_i d ed
    obtain ⟨v,ev,rv⟩:=zn4 r1 ed
    exact .inl (.inr (.inl ⟨a,vs,i,v,rfl,rfl,h1.sqT,ev,q _ _ (.same rv)⟩))
   ·exact q.elim
  ·rename_i ds e
   obtain ⟨a,vs,rfl,h1,r1⟩:=zdq ex w e
   obtain ⟨i,rfl,q⟩:=zbs ⟨F',w'⟩ q
   split at q
   ·rename_i d ed
    obtain ⟨v,ev,rv⟩:=zn4 r1 ed
    exact .inl (.inl ⟨a,vs,i,v,rfl,rfl,.of h1,ev,q _ _ (.same rv)⟩)
   ·exact q.elim
  ·rename_i ns e
   obtain ⟨a,rfl,h1⟩:=zqh ex w e
   obtain ⟨i,rfl,q⟩:=zbs ⟨F',w'⟩ q
   split at q
   ·rename_i d ed
    exact .inl (.inl ⟨a,_,i,.int d,rfl,rfl,h1,by rw [zuV,ed]; rfl,q _ _ (.same (.int _))⟩)
   ·exact q.elim
  ·rename_i s e
   have h1:=zaY (u:=.str s) w (by rw [e]; rfl)
   subst h1
   obtain ⟨i,rfl,q⟩:=zbs ⟨F',w'⟩ q
   split at q
   ·rename_i c ec
    exact .inl (.inr (.inr ⟨s,i,c,rfl,rfl,q.1,ec,q.2 _ _ (.same (.str _))⟩))
   ·exact q.elim
  ·rename_i kvs e
   obtain ⟨a,vs,rfl,h1,r1⟩:=zqf ex w e
   split at q
   ·rename_i k ek
    split at q
    ·rename_i d ed
     obtain ⟨v,ev,rv⟩:=(zkS r1).1 d ed
     exact .inr ⟨a,v,rfl,.inl ⟨vs,k,h1,ziA w' ek,ev.symm⟩,q _ _ (.same rv)⟩
    ·exact q.elim
   ·exact q.elim
  ·rename_i kvs e
   obtain ⟨a,vs,rfl,h1,r1⟩:=zqg ex w e
   split at q
   ·rename_i k ek
    split at q
    ·rename_i d ed
     obtain ⟨v,ev,rv⟩:=(zkT r1).1 d ed
     obtain ⟨b,eb,hb⟩:=zkR ex w' ek
     exact .inr ⟨a,v,rfl,.inr ⟨vs,k,b,h1,eb,hb,ev.symm⟩,q _ _ (.same rv)⟩
    ·exact q.elim
   ·exact q.elim
  ·exact q.elim
 mono:=λa b q q' h k=>by
  unfold opIx at *
  split at k
  ·exact za5 (λi k=>by
    split at k
    ·exact h _ k
    ·exact k.elim) k
  ·exact za5 (λi k=>by
    split at k
    ·exact h _ k
    ·exact k.elim) k
  ·exact za5 (λi k=>by
    split at k
    ·exact h _ k
    ·exact k.elim) k
  ·exact za5 (λi k=>by
    split at k
    ·exact ⟨k.1,h _ k.2⟩
    ·exact k.elim) k
  ·split at k
   ·split at k
    ·exact h _ k
    ·exact k.elim
   ·exact k.elim
  ·split at k
   ·split at k
    ·exact h _ k
    ·exact k.elim
   ·exact k.elim
  ·exact k.elim
end
def cutD {α:Type} (xs:List α) (lo hi:Option Int):List α:=(xs.drop (HT.sIx xs.length 0 lo)).take (HT.sIx xs.length xs.length hi-HT.sIx xs.length 0 lo)
def opSl:OPS:=λa lo hi q=>match a.d with
 | .tup ds=>q (.fz (.tup (cutD ds lo hi)))
 | .lst ds=>q (.lst (cutD ds lo hi))
 | .str s=>s.length<=sizeLine/\q (.fz (.str (cutS s lo hi)))
 | _=>False
def rSlF (K:PySem.W.Frag):V->Option Int->Option Int->Hp->VK->Prop:=λx lo hi H Q=>∃ a xs,x=.ref a/\SqT K H a xs /\
 (HT.sIx xs.length 0 lo=0/\HT.sIx xs.length xs.length hi=xs.length->Q (.ref a) H)/\(¬ (HT.sIx xs.length 0 lo=0/\HT.sIx xs.length xs.length hi=xs.length)->∀ p o,H p=none->TupO (cutV xs lo hi) o->Q (.ref p) (upd H p o))
theorem zuW {X:Cx}:SlR X (rSlF X.K):=by
 intro pins s σ H x v vl vu lo hi sl Q I rx hs pl pu h
 obtain ⟨a,xs,rfl,hx,q1,q2⟩:=h
 by_cases hw:HT.sIx xs.length 0 lo=0/\HT.sIx xs.length xs.length hi=xs.length
 ·exact sl_tupA pins s σ H (.ref a) v vl vu lo hi sl Q I rx hs pl pu ⟨a,xs,rfl,hx,q1,λz=>absurd hw z⟩
 ·cases rx
  obtain ⟨its,r,ht,hz⟩:=I.tuple hx
  have hlen:its.toArray.size=xs.length:=by rw [ybt]; exact r.length.symm
  refine ⟨"tuple",_,PyProof.Rows.slot_tuple_getitem.lookup,ht.typeIs,?_⟩
  refine HT.getItem_tuple_cut ht hs pl pu (by rw [hlen]; exact hw) ?_ (by rw [hlen]; exact hz)
  rw [hlen]
  obtain ⟨o,t,I'⟩:=zgM I (xs:=cutV xs lo hi) (ya5 (cutV_length xs lo hi) hz) ((r.drop (HT.sIx xs.length 0 lo)).take (HT.sIx xs.length xs.length hi-HT.sIx xs.length 0 lo))
  exact ⟨.ref s.heap.objs.size,_,I',rfl,q2 hw _ _ (I.hok.fresh (yaw _)) t⟩
abbrev ztP (K:PySem.W.Frag):V->Option Int->Option Int->Hp->VK->Prop:=λx lo hi H Q=>rSlL K x lo hi H Q\/(λx lo hi H Q=>rSlF K x lo hi H Q\/rSlS x lo hi H Q) x lo hi H Q
section
variable {X:Cx} {K:PySem.W.Frag}
theorem sl_all:SlR X (ztP X.K):=SlR.or sl_list (SlR.or zuW sl_str)
theorem zn5 {G:Hp} {vs:List V} {ds:List D} (r:Reps K G vs ds) (lo hi:Option Int):Reps K G (cutV vs lo hi) (cutD ds lo hi):=by
 unfold cutV cutD
 rw [r.length]
 exact (r.drop _).take _
theorem zqj {α:Type} {xs:List α} {lo hi:Option Int} (h:HT.sIx xs.length 0 lo=0/\HT.sIx xs.length xs.length hi=xs.length):cutD xs lo hi=xs:=by
 unfold cutD
 rw [h.1,h.2]
 simp
theorem snd_sl:SndS K (ztP K) opSl where
 run:=λG H x mx F lo hi Q ex w q=>by
  unfold opSl at q
  split at q
  ·rename_i ds e
   cases w with
   | fz w =>
     have e:_=D.tup ds:=e
     subst e
     cases w with
     | tup h1 r1 =>
       rename_i a vs
       refine .inr (.inl ⟨a,vs,rfl,(h1.mono ex).sqT,λz=>q _ _ (.same ?_),λz p o n t=>q _ _ (.tup n t (zn5 r1 lo hi))⟩)
       rw [r1.length] at z
       rw [zqj z]
       exact .tup h1 r1
   | lst h r=>cases e
   | dK h r=>cases e
   | dT h r=>cases e
   | lk _ _=>cases e
   | bx _ _ _ _=>cases e
   | dq _=>cases e
   | dA _ _=>cases e
   | ob _ _=>cases e
  ·rename_i ds e
   obtain ⟨a,vs,rfl,h1,r1⟩:=zdq ex w e
   exact .inl ⟨a,vs,rfl,.of h1,λp n=>q _ _ (.lst n (zn5 r1 lo hi))⟩
  ·rename_i s e
   have h1:=zaY (u:=.str s) w (by rw [e]; rfl)
   subst h1
   exact .inr (.inr ⟨s,rfl,q.1,q.2 _ _ (.same (.str _))⟩)
  ·exact q.elim
 mono:=λa lo hi q q' h k=>by
  unfold opSl at *
  split at k
  ·exact h _ k
  ·exact h _ k
  ·exact ⟨k.1,h _ k.2⟩
  ·exact k.elim
end
theorem CallR.or {X:Cx} {f:Value} {r r':List V->Hp->VK->Prop} (h:CallR X f r) (h':CallR X f r'):CallR X f (λxs H Q=>r xs H Q\/r' xs H Q):=by
 intro pins s σ H xs us Q I rv q
 exact q.elim (h pins s σ H xs us Q I rv) (h' pins s σ H xs us Q I rv)
def one (ms:List M) (k:M->Prop):Prop:=match ms with
 | [m]=>k m
 | _=>False
theorem zd9 {K:PySem.W.Frag} {G H:Hp} {vs:List V} {ms:List M} {k:M->Prop} (w:Owns K G H vs ms) (q:one ms k):∃ v m,vs=[v]/\ms=[m]/\(∃ F,Own K G H v m F)/\k m:=by
 unfold one at q
 split at q
 ·rename_i m
  match vs,w with
  | [v],w=>exact ⟨v,m,rfl,rfl,w.1,q⟩
  | [],w=>exact w.elim
  | _::_::_,w=>exact w.2.elim
 ·exact q.elim
theorem zc7 {ms:List M} {k k':M->Prop} (h:∀ m,k m->k' m) (q:one ms k):one ms k':=by
 unfold one at *
 split at q
 ·exact h _ q
 ·exact q.elim
def two (ms:List M) (k:M->M->Prop):Prop:=match ms with
 | [m,n]=>k m n
 | _=>False
theorem zuX {K:PySem.W.Frag} {G H:Hp} {vs:List V} {ms:List M} {k:M->M->Prop} (w:Owns K G H vs ms) (q:two ms k):∃ v u m n,vs=[v,u]/\ms=[m,n]/\(∃ F,Own K G H v m F)/\(∃ F,Own K G H u n F)/\k m n:=by
 unfold two at q
 split at q
 ·rename_i m n
  match vs,w with
  | [v,u],w=>exact ⟨v,u,m,n,rfl,rfl,w.1,w.2.1,q⟩
  | [],w=>exact w.elim
  | [_],w=>exact w.2.elim
  | _::_::_::_,w=>exact w.2.2.elim
 ·exact q.elim
theorem zsr {ms:List M} {k k':M->M->Prop} (h:∀ m n,k m n->k' m n) (q:two ms k):two ms k':=by
 unfold two at *
 split at q
 ·exact h _ _ q
 ·exact q.elim
def lenD:D->Option Nat
 | .tup ds=>some ds.length
 | .lst ds=>some ds.length
 | .scr ns=>some ns.length
 | .dK kvs=>some kvs.length
 | .dT kvs=>some kvs.length
 | .str s=>some s.length
 | _=>none
def lenOk:D->Prop
 | .str s=>s.length<=sizeLine
 | _=>True
def zdr:OPN:=λms q=>one ms λm=>match lenD m.d with
 | some n=>lenOk m.d/\q (.fz (.int n))
 | none=>False
def ztQ:List V->Hp->VK->Prop:=λxs H Q=>∃ (p:Addr) (kvs:List (List Key×V)),xs=[.ref p]/\Rd H p (.dT kvs)/\Q (.int ((kvs.length:Nat):Int)) H
def ztR:List V->Hp->VK->Prop:=λxs H Q=>∃ (p:Addr) (kvs:List (Key×V)),xs=[.ref p]/\Rd H p (.dK kvs)/\Q (.int ((kvs.length:Nat):Int)) H
theorem zoS {X:Cx}:CallR X (.builtin "len") ztQ:=by
 intro pins s σ H xs us Q I r h
 obtain ⟨p,kvs,rfl,hp,q⟩:=h
 obtain ⟨u,rfl,rx⟩:=vals1 r
 obtain rfl:u=.ref p:=rx
 obtain ⟨z,hd,ys,rel,dd⟩:=dt_rd I.hok hp
 have hl:kvs.length=ys.length:=Paired.length rel
 refine call_len_dictH hd dd (by rw [← hl]; rw [sizeLine_eq] at z; omega) ?_
 rw [← hl]
 exact ⟨.int ((kvs.length:Nat):Int),H,I.tok _,⟨_,rfl⟩,q⟩
theorem zoT {X:Cx}:CallR X (.builtin "len") ztR:=by
 intro pins s σ H xs us Q I r h
 obtain ⟨a,kvs,rfl,ha,q⟩:=h
 obtain ⟨u,rfl,ru⟩:=vals1 r
 cases ru
 exact d_len I ha λt s' I'=>⟨.int kvs.length,H,I',⟨t,rfl⟩,q⟩
abbrev zqk (K:PySem.W.Frag):List V->Hp->VK->Prop:=λxs H Q=>(∃ x n,xs=[x]/\LenV K x H n/\Q (.int n) H)\/ztR xs H Q\/ztQ xs H Q
section
variable {X:Cx} {K:PySem.W.Frag}
theorem zav:CallR X (.builtin "len") (zqk X.K):=CallR.or call_len (CallR.or zoT zoS)
theorem zbv:SndN K (zqk K) zdr where
 run:=λG H xs ms Q ex ow q=>by
  obtain ⟨v,m,rfl,rfl,⟨F,w⟩,q⟩:=zd9 ow q
  split at q
  ·rename_i n e
   obtain ⟨q1,q⟩:=q
   generalize hd:m.d=d at e q1
   cases d with
   | tup ds =>
     cases e
     obtain ⟨a,vs,rfl,h1,r1⟩:=ziW ex w hd
     exact .inl ⟨_,_,rfl,.inr ⟨vs,h1.sqT,by rw [r1.length]⟩,q _ _ (.same (.int _))⟩
   | lst ds =>
     cases e
     obtain ⟨a,vs,rfl,h1,r1⟩:=zdq ex w hd
     exact .inl ⟨_,_,rfl,.inl ⟨vs,.of h1,by rw [r1.length]⟩,q _ _ (.same (.int _))⟩
   | scr ns =>
     cases e
     obtain ⟨a,rfl,h1⟩:=zqh ex w hd
     exact .inl ⟨_,_,rfl,.inl ⟨_,h1,by rw [yac]⟩,q _ _ (.same (.int _))⟩
   | dK ds =>
     cases e
     obtain ⟨a,vs,rfl,h1,r1⟩:=zqf ex w hd
     refine .inr (.inl ⟨a,vs,rfl,h1,?_⟩)
     rw [r1.length]
     exact q _ _ (.same (.int _))
   | dT ds =>
     cases e
     obtain ⟨a,vs,rfl,h1,r1⟩:=zqg ex w hd
     refine .inr (.inr ⟨a,vs,rfl,h1,?_⟩)
     rw [r1.length]
     exact q _ _ (.same (.int _))
   | str s =>
     cases e
     have h1:=zaY (u:=.str s) w (by rw [hd]; rfl)
     subst h1
     exact .inl ⟨_,_,rfl,⟨q1,rfl⟩,q _ _ (.same (.int _))⟩
   | _=>cases e
  ·exact q.elim
 mono:=λa q q' h k=>zc7 (λm k=>by
  split at k
  ·exact ⟨k.1,h _ k.2⟩
  ·exact k.elim) k
end
def tyNm:D->Option String
 | .non=>some "NoneType"
 | .bl _=>some "bool"
 | .int _=>some "int"
 | .str _=>some "str"
 | .tup _=>some "tuple"
 | .lst _=>some "list"
 | .dK _=>some "dict"
 | _=>none
def isiB (t T:String):Bool:=t==T||(t == "bool" && T == "int")
def zql:List String:=["int", "bool", "str", "tuple", "list", "dict"]
theorem zuY:∀ t∈["NoneType", "bool", "int", "str", "tuple", "list", "dict"],∀ T∈zql,kitB t T=some (isiB t T):=by decide +kernel
def ziY:OPN:=λms q=>two ms λm n=>match n with
 | .fz (.ty T)=>match tyNm m.d with
   | some t=>zql.contains T=true/\q (.fz (.bl (isiB t T)))
   | none=>False
 | _=>False
theorem zss {d:D} {t:String} (e:tyNm d=some t):t∈["NoneType", "bool", "int", "str", "tuple", "list", "dict"]:=by
 cases d<;>first
  | (cases e; decide)
  | cases e
section
variable {X:Cx} {K:PySem.W.Frag}
theorem own_ty {G H:Hp} {x:V} {m:M} {F:List Addr} {t:String} (ex:Ex G H) (w:Own K G H x m F) (e:tyNm m.d=some t):TyX K H x (.type t):=by
 cases w with
 | fz w =>
   cases w with
   | non=>cases e; exact .base .non
   | bl _=>cases e; exact .base (.bl _)
   | int _=>cases e; exact .base (.int _)
   | str _=>cases e; exact .base (.str _)
   | tup h r =>
     cases e
     obtain ⟨o,h,t⟩:=h.mono ex
     cases t with
     | key _=>exact .base (.tup h)
     | frz _ _ _ _=>exact .fTuple h
   | lst h r=>cases e; exact .base (.lst (ex.keep h))
   | dK h r =>
     cases e
     rcases ex.rd h with h | ⟨o,h⟩
     ·exact .base (.dK h)
     ·exact .fDict h
   | _=>cases e
 | lst h r=>cases e; exact .base (.lst h)
 | dK h r=>cases e; exact .base (.dK h)
 | dT h r=>cases e
 | lk _ _=>cases e
 | bx _ _ _ _=>cases e
 | dq _=>cases e
 | dA h _=>cases e; exact .base (.dK h)
 | ob _ _=>cases e
theorem zft:SndN K (rIsi K) ziY where
 run:=λG H xs ms Q ex ow q=>by
  obtain ⟨v,u,m,n,rfl,rfl,⟨F,w⟩,⟨F',w'⟩,q⟩:=zuX ow q
  split at q
  ·rename_i T _
   split at q
   ·rename_i t e
    obtain ⟨q1,q⟩:=q
    cases w' with
    | fz w' =>
      cases w'
      have tb:=zuY t (zss e) T (by simpa using q1)
      exact ⟨v,.ty T,.type t,.type T,isiB t T,rfl,.ty T,own_ty ex w e,kit_ty tb,q _ _ (.same (.bl _))⟩
   ·exact q.elim
  ·exact q.elim
 mono:=λa q q' h k=>zsr (λm n k=>by
  split at k
  ·split at k
   ·exact ⟨k.1,h _ k.2⟩
   ·exact k.elim
  ·exact k.elim) k
end
def zm1:List D->Option (List Bool)
 | []=>some []
 | .bl b::ds=>(zm1 ds).map (b :: ·)
 | _::_=>none
theorem zn6:∀ {ds:List D} {bs:List Bool},zm1 ds=some bs->ds=bs.map D.bl
 | [],_,e=>by cases e; rfl
 | d::ds,bs,e=>by
   cases d<;>first
    | (unfold zm1 at e
       obtain ⟨cs,e1,rfl⟩:=yaJ.mp e
       rw [zn6 e1]
       rfl)
    | (cases e; done)
def zst:OPN:=λms q=>one ms λm=>match m.d with
 | .lst ds=>(match zm1 ds with
   | some bs=>q (.fz (.bl (bs.all id)))
   | none=>False)
 | _=>False
def ze1:OPN:=λms q=>one ms λm=>match m.d with
 | .lst ds=>q (.fz (.tup ds))
 | .tup ds=>q (.fz (.tup ds))
 | _=>False
def zn7:OPN:=λms q=>one ms λm=>match m.d with
 | .lst ds=>q (.lst ds)
 | .tup ds=>q (.lst ds)
 | _=>False
abbrev ztS (K:PySem.W.Frag):List V->Hp->VK->Prop:=λxs H Q=>∃ p ys,xs=[.ref p]/\((SqL K H p ys/\∀ l o,H l=none->TupO ys o->Q (.ref l) (upd H l o))\/(SqT K H p ys/\Q (.ref p) H))
abbrev rLstOf (K:PySem.W.Frag):List V->Hp->VK->Prop:=λxs H Q=>∃ p ys,xs=[.ref p]/\(SqL K H p ys\/SqT K H p ys)/\∀ l,H l=none->Q (.ref l) (upd H l (.lst ys))
section
variable {X:Cx} {K:PySem.W.Frag}
theorem zuZ:SndN K (rAll K) zst where
 run:=λG H xs ms Q ex ow q=>by
  obtain ⟨v,m,rfl,rfl,⟨F,w⟩,q⟩:=zd9 ow q
  split at q
  ·rename_i ds e
   split at q
   ·rename_i bs eb
    obtain ⟨a,vs,rfl,h1,r1⟩:=zdq ex w e
    rw [zn6 eb] at r1
    have:=r1.bls
    subst this
    exact ⟨a,bs,rfl,.of h1,q _ _ (.same (.bl _))⟩
   ·exact q.elim
  ·exact q.elim
 mono:=λa q q' h k=>zc7 (λm k=>by
  split at k
  ·split at k
   ·exact h _ k
   ·exact k.elim
  ·exact k.elim) k
theorem zds:CallR X (.type "tuple") (ztS X.K):=by
 intro pins s σ H xs us Q I r h
 obtain ⟨p,ys,rfl,h⟩:=h
 obtain ⟨u,rfl,rx⟩:=vals1 r
 cases rx
 rcases h with ⟨hq,q⟩ | ⟨hq,q⟩
 ·obtain ⟨its,r',pl,hz⟩:=I.list hq
  have hlen:=r'.length
  refine call_tuple_list pl.isList (λh' kp => ?_) (by simp only [ybt]<;>omega)
  have I1:Inv X pins σ H { s with heap:=h' }:=I.kept (t':=s.toks) kp
  obtain ⟨o,t,I2⟩:=zgM I1 hz r'
  exact ⟨.ref h'.objs.size,_,I2,rfl,q _ _ (I1.hok.fresh (yaw _)) t⟩
 ·obtain ⟨its,r',pl,hz⟩:=I.tuple hq
  exact call_tuple_same pl ⟨.ref p,H,I,rfl,q⟩
theorem zeM:SndN K (ztS K) ze1 where
 run:=λG H xs ms Q ex ow q=>by
  obtain ⟨v,m,rfl,rfl,⟨F,w⟩,q⟩:=zd9 ow q
  split at q
  ·rename_i ds e
   obtain ⟨a,vs,rfl,h1,r1⟩:=zdq ex w e
   exact ⟨a,vs,rfl,.inl ⟨.of h1,λl o n t=>q _ _ (.tup n t r1)⟩⟩
  ·rename_i ds e
   cases w with
   | fz w =>
     have e:_=D.tup ds:=e
     subst e
     cases w with
     | tup h1 r1=>exact ⟨_,_,rfl,.inr ⟨(h1.mono ex).sqT,q _ _ (.same (.tup h1 r1))⟩⟩
   | lst h r=>cases e
   | dK h r=>cases e
   | dT h r=>cases e
   | lk _ _=>cases e
   | bx _ _ _ _=>cases e
   | dq _=>cases e
   | dA _ _=>cases e
   | ob _ _=>cases e
  ·exact q.elim
 mono:=λa q q' h k=>zc7 (λm k=>by
  split at k
  ·exact h _ k
  ·exact h _ k
  ·exact k.elim) k
theorem zsu:SndN K (rLstOf K) zn7 where
 run:=λG H xs ms Q ex ow q=>by
  obtain ⟨v,m,rfl,rfl,⟨F,w⟩,q⟩:=zd9 ow q
  split at q
  ·rename_i ds e
   obtain ⟨a,vs,rfl,h1,r1⟩:=zdq ex w e
   exact ⟨a,vs,rfl,.inl (.of h1),λl n=>q _ _ (.lst n r1)⟩
  ·rename_i ds e
   obtain ⟨a,vs,rfl,h1,r1⟩:=ziW ex w e
   exact ⟨a,vs,rfl,.inr h1.sqT,λl n=>q _ _ (.lst n r1)⟩
  ·exact q.elim
 mono:=λa q q' h k=>zc7 (λm k=>by
  split at k
  ·exact h _ k
  ·exact h _ k
  ·exact k.elim) k
def leD (x y:D):Bool:=!ltD y x
def zdt (ds:List D):List D:=ds.mergeSort leD
def zet (ps:List PyData):Bool:=ps.all (λp=>ps.all (λq=>PySem.W.alike p q))&&ps.all (λp=>decide (p.depth<=60)) &&
 (ps.all (λp=>match p with
  | .tuple (_::_)=>true
  | _=>false)||ps.all (λp=>match p with
  | .none=>false
  | .tuple _=>false
  | _=>true))
def ziB:OPN:=λms q=>one ms λm=>match m.d with
 | .lst ds=>(match D.pys ds with
   | some ps=>zet ps=true/\q (.lst (zdt ds))
   | none=>False)
 | _=>False
def zu0 (K:PySem.W.Frag):List V->Hp->VK->Prop:=λxs H Q=>∃ a vs ps,xs=[V.ref a]/\SqL K H a vs/\DpAll K H vs ps/\zet ps=true/\∀ p,H p=none->Q (.ref p) (upd H p (.lst (((vs.zip ps).mergeSort (PySem.W.dataLe false (·.2))).map (·.1))))
theorem zqm {H:Hp}:∀ {vs:List V} {ps:List PyData},DpAll K H vs ps->vs.length=ps.length
 | _,_,.nil=>rfl
 | _,_,.cons _ r=>yaX (· + 1) (zqm r)
theorem zlO (hu:X.A.units+64<cLine):CallR X (.builtin "sorted") (zu0 X.K):=by
 intro pins s σ H xs us Q I r ⟨a,vs,ps,ex,hs,hd,ok,q⟩
 subst ex
 obtain ⟨its,rv,hl,hz⟩:=I.list hs
 rw [Vals.ref1 r]
 have len:=zqm hd
 have each:∀ {vs:List V} {ps:List PyData} {its:List Value},Vals vs its->DpAll X.K H vs ps->PySem.W.EachIs (λ(v:Value) (b:V×PyData)=>RelV b.1 v/\Dp X.K H b.1 b.2) its (vs.zip ps):=by
  intro vs ps its rv hd
  induction rv generalizing ps with
  | nil =>
    cases hd
    exact .nil
  | cons r rv ih =>
    cases hd with
    | cons h hd=>exact .cons ⟨r,h⟩ (ih hd)
 unfold zet at ok
 obtain ⟨ok,o3⟩:=yaL.mp ok
 obtain ⟨o1,o2⟩:=yaL.mp ok
 have em:(vs.zip ps).map (·.2)=ps:=by
  rw [List.map_snd_zip]
  omega
 have mem:∀ b,b∈vs.zip ps->b.2∈ps:=λb hb=>(ycq hb).2
 refine PySem.W.sorted_data (R:=λ(v:Value) (b:V×PyData)=>RelV b.1 v/\Dp X.K H b.1 b.2) (enc:=(·.2)) (bs:=vs.zip ps) hl.isList (each rv hd) ?_ ?_ ?_ ?_ ?_ λout ol eo => ?_
 ·exact (each rv hd).mono λv b ⟨h1,h2⟩=>Dp.reads I b.2 b.1 v h2 h1
 ·rw [em]
  intro d hd d' hd'
  exact yam.mp (yam.mp o1 d hd) d' hd'
 ·rw [em]
  rcases Bool.or_eq_true_iff.mp o3 with z | z
  ·refine .inl λd hd => ?_
   have:=yam.mp z d hd
   split at this
   ·exact ⟨_,_,rfl⟩
   ·cases this
  ·refine .inr λd hd => ?_
   have:=yam.mp z d hd
   refine ⟨λe => ?_,λxs e => ?_⟩
   ·rw [e] at this
    cases this
   ·rw [e] at this
    cases this
 ·rw [ybZ,← len,ycr]
  exact hz
 ·intro b hb
  have:=yai (yam.mp o2 b.2 (mem b hb))
  omega
 ·obtain ⟨ep,he⟩:=PyProof.Rows.sortedAll_at s.heap its out.toArray
  have vout:Vals (((vs.zip ps).mergeSort (PySem.W.dataLe false (·.2))).map (·.1)) out:=by
   have conv:∀ {out:List Value} {bs:List (V×PyData)},PySem.W.EachIs (λ(v:Value) (b:V×PyData)=>RelV b.1 v/\Dp X.K H b.1 b.2) out bs->Vals (bs.map (·.1)) out:=by
    intro out bs e
    induction e with
    | nil=>exact .nil
    | cons h _ ih=>exact .cons h.1 ih
   exact conv eo
  have hlen:(((vs.zip ps).mergeSort (PySem.W.dataLe false (·.2))).map (·.1)).length<=sizeLine:=by
   rw [yac,List.length_mergeSort,ybZ,← len,ycr]
   exact hz
  exact ⟨.ref _,upd H (s.heap.objs.size+1) (.lst _),I.laid (t':=s.toks) (λ_ _ z=>PyProof.Rows.sortedAll_old z) (Nat.le_succ _) ⟨hlen,out,ep,vout,he⟩,rfl,q _ (I.hok.fresh (Nat.le_succ _))⟩
theorem tri {G:Hp}:∀ {vs:List V} {ds:List D} {ps:List PyData},Reps K G vs ds->D.pys ds=some ps->∃ T:List (V×D×PyData),vs=T.map (·.1)/\ds=T.map (·.2.1)/\vs.zip ps=T.map (λt=>(t.1,t.2.2))/\∀ t∈T,Rep K G t.1 t.2.1/\t.2.1.py=some t.2.2
 | _,_,_,.nil,e=>by
   cases e
   exact ⟨[],rfl,rfl,rfl,λ_ z=>nomatch z⟩
 | _,_,_,.cons (v:=v) (d:=d) h r,e=>by
   unfold D.pys at e
   split at e
   ·rename_i p ps e1 e2
    cases e
    obtain ⟨T,h1,h2,h3,h4⟩:=tri r e2
    refine ⟨(v,d,p)::T,by rw [h1]; rfl,by rw [h2]; rfl,?_,λt ht => ?_⟩
    ·rw [List.zip_cons_cons,h3]
     rfl
    ·rcases yao.mp ht with z | z
     ·subst z
      exact ⟨h,e1⟩
     ·exact h4 t z
   ·cases e
theorem zn8 {G:Hp}:∀ {T:List (V×D×PyData)},(∀ t∈T,Rep K G t.1 t.2.1)->Reps K G (T.map (·.1)) (T.map (·.2.1))
 | [],_=>.nil
 | t::T,h=>.cons (h t yaa) (zn8 λt z=>h t (yab _ z))
theorem ziZ {G:Hp} {vs:List V} {ds:List D} {ps:List PyData} (r:Reps K G vs ds) (e:D.pys ds=some ps):Reps K G (((vs.zip ps).mergeSort (PySem.W.dataLe false (·.2))).map (·.1)) (zdt ds):=by
 obtain ⟨T,h1,h2,h3,h4⟩:=tri r e
 have a1:(T.mergeSort λa b=>leD a.2.1 b.2.1).map (λt=>(t.1,t.2.2))=(vs.zip ps).mergeSort (PySem.W.dataLe false (·.2)):=by
  rw [h3]
  refine yb5 λa ha b hb => ?_
  show leD a.2.1 b.2.1=PySem.W.dataLe false (·.2) (a.1,a.2.2) (b.1,b.2.2)
  rw [PySem.W.dataLe_eq]
  show (!ltD b.2.1 a.2.1) = !PySem.W.dataLt b.2.2 a.2.2
  unfold ltD
  rw [(h4 a ha).2,(h4 b hb).2]
 have a2:(T.mergeSort λa b=>leD a.2.1 b.2.1).map (·.2.1)=zdt ds:=by
  rw [h2]
  exact yb5 λa ha b hb=>rfl
 rw [← a1,← a2,yaK]
 exact zn8 λt z=>(h4 t ((ybp _ _).mem_iff.mp z)).1
theorem zoU:SndN K (zu0 K) ziB where
 run:=λG H xs ms Q ex ow q=>by
  obtain ⟨v,m,rfl,rfl,⟨F,w⟩,q⟩:=zd9 ow q
  split at q
  ·rename_i ds e
   split at q
   ·rename_i ps ep
    obtain ⟨a,vs,rfl,h1,r1⟩:=zdq ex w e
    exact ⟨a,vs,ps,rfl,.of h1,Reps.dp ex r1 ep,q.1,λp n=>q.2 _ _ (.lst n (ziZ r1 ep))⟩
   ·exact q.elim
  ·exact q.elim
 mono:=λa q q' h k=>zc7 (λm k=>by
  split at k
  ·split at k
   ·exact ⟨k.1,h _ k.2⟩
   ·exact k.elim
  ·exact k.elim) k
end
def pairK:D->Option (Key×D)
 | .tup [k,v]=>(keyK k).map λk=>(k,v)
 | _=>none
def zqn:List D->Option (List (Key×D))
 | []=>some []
 | d::ds=>match pairK d,zqn ds with
   | some k,some ks=>some (k::ks)
   | _,_=>none
def ztT (kvs more:List (Key×D)):List (Key×D):=more.foldl (λacc kv=>setK acc kv.1 kv.2) kvs
def zeN (op op':OP2) (oa ob oc:WO):WE:=λe Q X=>oa e (λa e1=>ob e1 (λb e2=>zbB a e2 λma=>zbB b e2 λmb=>op ma mb λm=>match m with
 | .fz (.bl true)=>oc e2 (λc e3=>zbB b e3 λmb'=>zbB c e3 λmc=>op' mb' mc λm=>Q m e3) X
 | .fz (.bl false)=>Q (.fz (.bl false)) e2
 | _=>False) X) X
section
variable {y:Y} {a b c:Expr} {oa ob oc:WO} {op op':OP2} {r r':R2} {o o':CmpOp} {pos:Pos}
theorem zgp {K:PySem.W.Frag} (hs:Snd2 K r op) (hs':Snd2 K r' op') (ha:zf7 oa) (hb:zf7 ob) (hc:zf7 oc):zcA (zeN op op' oa ob oc):=λe Q Q' X X' hq hx q =>
 ha e _ _ _ _ (λa e1 q=>hb e1 _ _ _ _ (λb e2 q=>zaX (λma q=>zaX (λmb q=>hs.mono _ _ _ _ (λm q=>by
  split at q
  ·exact hc _ _ _ _ _ (λc e3 q=>zaX (λmb q=>zaX (λmc q=>hs'.mono _ _ _ _ (λm q=>hq _ _ q) q) q) q) hx q
  ·exact hq _ _ q
  ·exact q.elim) q) q) q) hx q) hx q
theorem zlP (hs:Snd2 y.X.K r op) (hs':Snd2 y.X.K r' op') (ha:zf7 oa) (hb:zf7 ob) (hc:zf7 oc) (σ:L2.St) (H:Hp) (Q:VK) (h:zgl y (zeN op op' oa ob oc) σ H Q) :
 tChain r r' (zlG y oa) (zlG y ob) (zlG y oc) σ H Q:=by
 obtain ⟨e,P,h0,h⟩:=h
 refine ⟨e,P,h0,ha e _ _ _ _ (λa e1 q v H1 o1 => ?_) (λ_ _ q=>q) h⟩
 obtain ⟨o1,p1⟩:=o1
 refine ⟨e1,pend a v++P,o1,hb e1 _ _ _ _ (λb e2 q u H2 o2 => ?_) (λ_ _ q=>zdo q) q⟩
 obtain ⟨o2,p2⟩:=o2
 obtain ⟨ma,m1,q⟩:=zbI o2 (λp z=>yag _ (yan _ z)) p1 q
 obtain ⟨mb,m2,q⟩:=zdG o2 p2 q
 have o2':Ok y.X.K H2 σ e2 (pend a v++(pend b u++P)):=o2.perm (by
  rw [← yah,← yah]
  exact yaz.append_right _)
 obtain ⟨G,g⟩:=o2'.2.opn
 have pm:∀ x,x∈prs σ e2++(pend b u++(pend a v++P))->x∈prs σ e2++(pend a v++(pend b u++P)):=λx hx=>by
  simp only [yas] at hx ⊢
  rcases hx with h | h | h | h
  ·exact .inl h
  ·exact .inr (.inr (.inl h))
  ·exact .inr (.inl h)
  ·exact .inr (.inr (.inr h))
 obtain ⟨F1,w1⟩:=g.ownX _ (zmV pm m1)
 obtain ⟨F2,w2⟩:=g.ownX _ (zmV pm m2)
 refine hs.run G H2 v u ma mb F1 F2 _ g.ex w1 w2 (hs.mono _ _ _ _ (λm q z H3 r3 => ?_) q)
 have o3:=g.fin o2'.1 r3
 split at q
 ·have ez:=zoM o3
  subst ez
  refine ⟨true,rfl,?_⟩
  rw [yaM rfl]
  refine ⟨e2,pend b u++P,o3.pop,hc e2 _ _ _ _ (λc e3 q w' H4 o4 => ?_) (λ_ _ q=>zdo q) q⟩
  obtain ⟨o4,p4⟩:=o4
  obtain ⟨mb',n1,q⟩:=zbI o4 (λp z=>yag _ (yan _ z)) p2 q
  obtain ⟨mc,n2,q⟩:=zdG o4 p4 q
  obtain ⟨G',g'⟩:=o4.2.opn
  obtain ⟨F3,w3⟩:=g'.ownX _ n1
  obtain ⟨F4,w4⟩:=g'.ownX _ n2
  rw [show pend c w'++(pend b u++P)=(pend c w'++pend b u)++P from (yah _ _ _).symm] at g'
  exact hs'.run G' H4 u w' mb' mc F3 F4 Q g'.ex w3 w4 (hs'.mono _ _ _ _ (λm q v' H' r'=>q v' H' (g'.fin o4.1 r')) q)
 ·have ez:=zoM o3
  subst ez
  refine ⟨false,rfl,?_⟩
  rw [yaH yat]
  refine q _ _ ⟨o3.1,?_⟩
  have s3:Sep y.X.K H3 (pend b u++((.bl false,.fz (.bl false))::(prs σ e2++P))):=o3.2.perm (by
   refine List.Perm.trans yae ?_
   refine List.Perm.trans ?_ (yae.symm)
   refine List.Perm.cons _ ?_
   rw [← yah,← yah]
   exact yaz.append_right _)
  exact (s3.right).perm yae.symm
 ·exact q.elim
theorem zsv (ho:OpR y.X (compareOp o) r) (ho':OpR y.X (compareOp o') r') (hs:Snd2 y.X.K r op) (hs':Snd2 y.X.K r' op') (ha:SO y a oa) (hb:SO y b ob) (hc:SO y c oc) (hm:lastMarks [o,o'] [b,c]=false) :
 SE y (.Compare a [o,o'] [b,c] pos) (zeN op op' oa ob oc) :=
 ⟨zbH (pe_chain ho ho' ha.run hb.run hc.run hm) (zlP hs hs' ha.mono hb.mono hc.mono),zgp hs hs' ha.mono hb.mono hc.mono⟩
theorem zsw (ho:OpR y.X (compareOp o) r) (ho':OpR y.X (compareOp o') r') (hs:Snd2 y.X.K r op) (hs':Snd2 y.X.K r' op') (ha:SO y a oa) (hb:SO y b ob) (hc:SO y c oc) (hm:lastMarks [o,o'] [b,c]=false) :
 ST y (.Compare a [o,o'] [b,c] pos) (tVal (zeN op op' oa ob oc)) where
 run:=znV (pt_chain ho ho' ha.run hb.run hc.run hm) λσ H Q ⟨e,P,h0,q⟩=>by
  refine zlP hs hs' ha.mono hb.mono hc.mono σ H (λx H'=>∃ k,x=.bl k/\Q k H') ⟨e,P,h0,zgp hs hs' ha.mono hb.mono hc.mono _ _ _ _ _ (λm e' q v H' o => ?_) (λ_ _ q=>q) q⟩
  dsimp only at q
  split at q
  ·exact ⟨_,zoM o,q H' o.pop⟩
  ·exact q.elim
 mono:=zlH (zgp hs hs' ha.mono hb.mono hc.mono)
theorem zsx {x:Str} {t:Str} {k:Tok} (hg:Gl y.X x) (hm:y.X.mg x=some (.str t k)) (hd:(x==("__debug__" : Str))=false):SE y (.Name x pos) (wC (.str t)):=zeZ (pe_glob hg hm (v:=.str t) ⟨_,rfl⟩ hd) λ_=>.str t
theorem zsy {x:Str} {t:Int} {k:Tok} (hg:Gl y.X x) (hm:y.X.mg x=some (.int t k)) (hd:(x==("__debug__" : Str))=false):SE y (.Name x pos) (wC (.int t)):=zeZ (pe_glob hg hm (v:=.int t) ⟨_,rfl⟩ hd) λ_=>.int t
end
section
variable {y:Y} {T id:String} {name:Str} {op:OPM} {i:Nat} {wa:WA} {r:V->List V->Hp->VK->Prop} {x:Str} {px apos cpos:Pos} {e:Expr} {es:List Expr}
structure zsz (y:Y) (o:Expr) (name:Str) (apos cpos:Pos) (e:Expr) (es:List Expr):Prop where
 base:attributeBase o name y.X.env (eval o y.X.env)=eval o y.X.env
 few:((backTo cpos (starEach (e::es) y.X.env)).all (λx => !x.1)&&(backToKw cpos (keywordEach [] y.X.env)).all (λx=>x.1.isSome)
  && decide ((e::es).length+([]:List Keyword).length+(if ([]:List Keyword).isEmpty then 0 else 1)<30))=true
 line:(apos.endLine==cpos.line)=true
 star:starEach (e::es) y.X.env=(false,eval e y.X.env)::starEach es y.X.env
 plain:(backTo cpos (starEach es y.X.env)).any (·.1)=false
theorem se_mut (pa:PlainAttrs T) (slot:Slot T name id) (hty:typeOf (.builtin id)=pure (.type "method_descriptor")) (hm:MtR y.X id r) (hs:SndM y.X.K T r op) (c:zsz y (.Name x px) name apos cpos e es)
 (hN:y.X.N[i]?=some x) (hv:Vis y.X.env.scope x) (hd:(x==("__debug__" : Str))=false) (hcd:(x==("__classdict__" : Str))=false) (ha:SA y (e::es) wa):SE y (.Call (.Attribute (.Name x px) name apos) (e::es) [] cpos) (wMut T op i wa) where
 run:=zbH (pe_bm pa slot hty hm (pe_var hN hv hd hcd) ha.run c.base c.few c.line c.star c.plain) λσ H Q q=>zsd hs ha.mono σ H Q q
 mono:=zpZ hs ha.mono
end
structure SndT (K:PySem.W.Frag) (r:V->List V->Hp->VK->Prop) (op:M->OPN):Prop where
 run:∀ G H x mx F xs ms (Q:VK),Ex G H->Own K G H x mx F->Owns K G H xs ms->op mx ms (λm=>∀ v H',zhj K G H m v H'->Q v H')->r x xs H Q
 mono:∀ a b (q q':M->Prop),(∀ m,q m->q' m)->op a b q->op a b q'
def mTy (T:String):D->Bool
 | .str _=>T == "str"
 | .int _=>T == "int"
 | .lst _=>T == "list"
 | _=>false
theorem zu1 {K:PySem.W.Frag} {G H:Hp} {T:String} {v:V} {m:M} {F:List Addr} (ex:Ex G H) (h:mTy T m.d=true) (w:Own K G H v m F):tyV K T v H:=by
 cases w with
 | fz w=>cases w with
   | str s =>
     show T = "str"
     simpa [mTy,M.d] using h
   | int s =>
     show T = "int"
     simpa [mTy,M.d] using h
   | lst w r=>exact .inl ⟨by simpa [mTy,M.d] using h,_,.of (ex.keep w)⟩
   | _=>cases h
 | lst w r=>exact .inl ⟨by simpa [mTy,M.d] using h,_,.of w⟩
 | dK w r=>cases h
 | dT w r=>cases h
 | lk w r=>cases h
 | bx _ _ _ _=>cases h
 | dq _=>cases h
 | dA _ _=>cases h
 | ob _ _=>cases h
def wMt (T:String) (op:M->OPN) (o:WO) (wa:WA):WE:=λe Q X=>o e (λa e1=>zbB a e1 (λm=>mTy T m.d=true)/\wa e1 (λas e2=>zbB a e2 λm=>zc3 as e2 λms=>op m ms λr=>Q r e2) X) X
section
variable {y:Y} {T id:String} {name:Str} {op:M->OPN} {oo:WO} {wa:WA} {r:V->List V->Hp->VK->Prop} {o:Expr} {apos cpos:Pos} {e:Expr} {es:List Expr}
theorem zsA {K:PySem.W.Frag} (hs:SndT K r op) (ho:zf7 oo) (ha:zkG wa):zcA (wMt T op oo wa):=λe Q Q' X X' hq hx q =>
 ho _ _ _ _ _ (λa e1 q=>⟨q.1,ha _ _ _ _ _ (λas e2 q=>zaX (λm q=>zeY (λms q=>hs.mono _ _ _ _ (λm q=>hq _ _ q) q) q) q) hx q.2⟩) hx q
theorem zu2 (hs:SndT y.X.K r op) (ho:zf7 oo) (ha:zkG wa) (σ:L2.St) (H:Hp) (Q:VK) (h:zgl y (wMt T op oo wa) σ H Q):zlG y oo σ H λx H1=>tyV y.X.K T x H1/\zpI y wa σ H1 λxs H2=>r x xs H2 Q:=by
 obtain ⟨e,P,h0,h⟩:=h
 refine ⟨e,P,h0,ho e _ _ _ _ (λa e1 q v H1 o1 => ?_) (λ_ _ q=>q) h⟩
 obtain ⟨o1,p1⟩:=o1
 obtain ⟨t,q⟩:=q
 obtain ⟨m0,i0,t⟩:=zdG o1 p1 t
 obtain ⟨G,g⟩:=o1.2.opn
 obtain ⟨F0,w0⟩:=g.ownX _ i0
 refine ⟨zu1 g.ex t w0,e1,pend a v++P,o1,ha e1 _ _ _ _ (λas e2 q us H2 o2 => ?_) (λ_ _ q=>zdo q) q⟩
 obtain ⟨o2,p2⟩:=o2
 obtain ⟨m,m1,q⟩:=zbI o2 (λp z=>yag _ (yan _ z)) p1 q
 obtain ⟨G,g⟩:=o2.2.opn
 obtain ⟨ms,m2,q⟩:=zhk o2 g (λp z=>yan _ z) p2 q
 obtain ⟨F1,w1⟩:=g.ownX _ m1
 rw [show zeD as us++(pend a v++P)=(zeD as us++pend a v)++P from (yah _ _ _).symm] at g
 exact hs.run G H2 v m F1 us ms Q g.ex w1 m2 (hs.mono _ _ _ _ (λm q v' H' r'=>q v' H' (g.fin o2.1 r')) q)
theorem se_mt (pa:PlainAttrs T) (slot:Slot T name id) (hty:typeOf (.builtin id)=pure (.type "method_descriptor")) (hm:MtR y.X id r) (hs:SndT y.X.K r op) (c:zsz y o name apos cpos e es) (ho:SO y o oo) (ha:SA y (e::es) wa) :
 SE y (.Call (.Attribute o name apos) (e::es) [] cpos) (wMt T op oo wa) where
 run:=zbH (pe_bm pa slot hty hm ho.run ha.run c.base c.few c.line c.star c.plain) λσ H Q q=>zu2 hs ho.mono ha.mono σ H Q q
 mono:=zsA hs ho.mono ha.mono
end
structure SndP (K:PySem.W.Frag) (t:TSet) (op:M->M->D->(M->Prop)->Prop):Prop where
 run:∀ G H p m F i mi F' v d (Q:Hp->Prop),Ex G H->Own K G H (.ref p) m F->Own K G H i mi F'->Rep K G v d->op m mi d (λm'=>∀ H',zoJ K G H p m' H'->Q H')->t (.ref p) i v H Q
 mono:∀ a b d (q q':M->Prop),(∀ m,q m->q' m)->op a b d q->op a b d q'
abbrev isPl:M->Bool:=M.isP
def sSub (op:M->M->D->(M->Prop)->Prop) (p:Nat) (oi:WO) (w:WE):WS:=λE e=>w e (λm e1=>match e1[p]? with
 | some (some _)=>oi e1 (λa e2=>match e2[p]? with
   | some (some mp)=>isPl mp=true/\zbB a (e2.set p none) λmi=>op mp mi m.d λmp'=>E.nx (e2.set p (some mp'))
   | _=>False) E.ex
 | _=>False) E.ex
section
variable {y:Y} {κ:List (Nat×V)} {t:TSet} {op:M->M->D->(M->Prop)->Prop} {p:Nat} {oi:WO} {w:WE} {x:Str} {px sp pos:Pos} {ix e:Expr}
theorem zqo {K:PySem.W.Frag} (hs:SndP K t op) (hi:zf7 oi) (h:zcA w):zfn (sSub op p oi w):=λE E' e l q=>h _ _ _ _ _ (λm e1 q=>by
 split at q
 ·exact hi _ _ _ _ _ (λa e2 q=>by
   split at q
   ·exact ⟨q.1,zaX (λmi q=>hs.mono _ _ _ _ _ (λm q=>l.nx _ q) q) q.2⟩
   ·exact q.elim) l.ex q
 ·exact q.elim) l.ex q
theorem zu3 {m:M} (h:isPl m=true):m.isP=true:=h
theorem ss_sub (hs:SndP y.X.K t op) (ht:PSet y.X t) (hN:y.X.N[p]?=some x) (hv:Vis y.X.env.scope x) (hd:(x==("__debug__" : Str))=false) (hcd:(x==("__classdict__" : Str))=false) (hi:SO y ix oi) (h:SE y e w)
 (ha:∀ v,assign (.Subscript (.Name x px) ix sp) y.X.env v=(do
  let ov ← holding [v] (eval (.Name x px) y.X.env)
  let iv ← holding [v,ov] (eval ix y.X.env)
  standAt sp
  holding [v,ov,iv] (setItem ov iv v)
  release [v,ov,iv] []))
 (hsw:swapsWithSole [.Subscript (.Name x px) ix sp] e pos.line y.X.env=pure false) (hw:swappedStores [.Subscript (.Name x px) ix sp] e y.X.env=pure none)
 (h1:(assignEach [.Subscript (.Name x px) ix sp] y.X.env).map (·.2)=[assign (.Subscript (.Name x px) ix sp) y.X.env]):SS y κ (.Assign [.Subscript (.Name x px) ix sp] e pos) (sSub op p oi w) where
 run:=zdW (ps_asg h.run (pg_sub (pe_var hN hv hd hcd) hi.run ht ha) hsw hw h1) λD σ H ⟨e,P,hk,h0,q⟩=>⟨e,P,h0,h.mono _ _ _ _ _ (λm e1 q v H1 o1=>by
  split at q
  ·rename_i m0 em0
   obtain ⟨v0,ev0,_⟩:=o1.peek em0
   refine ⟨v0,ev0,e1,(v,.fz m.d)::P,o1.freeze,hi.mono _ _ _ _ _ (λa e2 q iv H2 o2 => ?_) (λx e' q c d H' r o=>q σ c d H' hk r o.pop) q⟩
   obtain ⟨o2,p2⟩:=o2
   split at q
   ·rename_i mp emp
    obtain ⟨tm,q⟩:=q
    obtain ⟨v',ev',om⟩:=o2.take emp
    have e3:some (some v0)=some (some v'):=ev0.symm.trans ev'
    cases e3
    obtain ⟨G1,p1,F1,rfl,w1,ex1,oth,up⟩:=(om.2.perm yae).mutR (zu3 tm)
    obtain ⟨mi,ins,q⟩:=zbI om (λp z=>yab _ (yan _ z)) p2 q
    have mem:∀ q,q∈exL (prs σ (e2.set p none)++((V.ref p1,mp)::(pend a iv++((v,.fz m.d)::P))))->∃ F,Own y.X.K G1 H2 q.1 q.2 F:=λq z=>by
     rcases znT (znU (yae (l₁:=prs σ (e2.set p none))) z) with z | z | z
     ·exact ⟨F1,z▸w1⟩
     ·rw [show zpG (V.ref p1,mp).2=[] from znY tm] at z
      exact nomatch z
     ·exact oth q z
    obtain ⟨F2,w2⟩:=mem _ ins
    obtain ⟨F3,w3⟩:=mem (v,.fz m.d) (ziP<|yag _ (yab _ (yag _ yaa)))
    cases w3 with
    | fz w3 =>
      refine hs.run G1 H2 p1 mp F1 iv mi F2 v m.d _ ex1 w1 w2 w3 (hs.mono _ _ _ _ _ (λm' q H' mo=>q σ H' hk ?_) q)
      have z:=(up _ _ mo _ _ w3).tail
      have z':Ok y.X.K H' σ (e2.set p none) ((.ref p1,m')::(pend a iv++((v,.fz m.d)::P))):=⟨om.1,z.perm yae.symm⟩
      have z2:=z'.give ev0
      rw [ybD] at z2
      exact (Ok.pops (P:=pend a iv) z2).pop
   ·exact q.elim
  ·exact q.elim) (λ_ _ q c d H' r o=>q σ c d H' hk r o) q⟩
 mono:=zqo hs hi.mono h.mono
end
section
variable {X:Cx} {K:PySem.W.Frag}
theorem zu4:(16777216:Nat)=sizeLine:=sizeLine_eq.symm
theorem zkX {G H:Hp} {p:Addr} {ds:List D} {F:List Addr} (w:Own K G H (.ref p) (.lst ds) F):∃ vs,H p=some (.lst vs)/\Reps K G vs ds:=by
 cases w with
 | lst h r=>exact ⟨_,h,r⟩
theorem zu5 {G H:Hp} {v:V} {d:D} {F:List Addr} (w:Own K G H v (.fz d) F):Rep K G v d:=by
 cases w with
 | fz h=>exact h
def zgP:OPM:=λm ms q=>one ms λa=>match m,a with
 | .lst ds,.fz d=>ds.length<16777216/\q .non (.lst (ds++[d]))
 | _,_=>False
theorem zho:SndM K "list" rAppend zgP where
 run:=λG H p m F xs ms Q ex w ow q=>by
  obtain ⟨v,a,rfl,rfl,⟨F',w'⟩,q⟩:=zd9 ow q
  split at q
  ·obtain ⟨vs,h,r⟩:=zkX w
   exact ⟨p,vs,v,rfl,rfl,h,by rw [r.length,← zu4]; exact q.1,q.2 _ _ .non (.lst (r.append (.one (zu5 w'))))⟩
  ·exact q.elim
 mono:=λa b q q' h k=>zc7 (λm k=>by
  split at k
  ·exact ⟨k.1,h _ _ k.2⟩
  ·exact k.elim) k
def opExtend:OPM:=λm ms q=>one ms λa=>match m with
 | .lst ds=>(match a.d with
   | .lst es=>ds.length+es.length<=16777216/\q .non (.lst (ds++es))
   | .tup es=>ds.length+es.length<=16777216/\q .non (.lst (ds++es))
   | _=>False)
 | _=>False
theorem zkh {G:Hp}:∀ {vs:List V} {ds:List D} (n:Nat),Reps K G vs ds->Reps K G (vs.eraseIdx n) (ds.eraseIdx n)
 | _,_,_,.nil=>.nil
 | _,_,0,.cons _ r=>r
 | _,_,n+1,.cons h r=>.cons h (zkh n r)
def opPop0:OPM:=λm ms q=>match ms with
 | []=>(match m with
   | .lst ds=>(match ds[ds.length-1]? with
     | some d=>q d (.lst ds.dropLast)
     | none=>False)
   | _=>False)
 | _=>False
def zlQ:OPM:=λm ms q=>one ms λa=>match m with
 | .lst ds=>zc4 a λi=>-(2 ^ 63)<=i/\i<2 ^ 63/\(match seqIndex? i ds.length with
   | some k=>(match ds[k]? with
     | some d=>q d (.lst (ds.eraseIdx k))
     | none=>False)
   | none=>False)
 | _=>False
theorem zsB:SndM K "list" rPopAt zlQ where
 run:=λG H p m F xs ms Q ex w ow q=>by
  obtain ⟨v,a,rfl,rfl,w',q⟩:=zd9 ow q
  split at q
  ·obtain ⟨i,rfl,q1,q2,q⟩:=zbs w' q
   split at q
   ·rename_i k ek
    split at q
    ·rename_i d e
     obtain ⟨vs,h,r⟩:=zkX w
     obtain ⟨u,ev,rv⟩:=r.at e
     exact ⟨p,vs,i,k,u,rfl,rfl,h,q1,q2,by rw [r.length]; exact ek,ev,q _ _ rv (.lst (zkh k r))⟩
    ·exact q.elim
   ·exact q.elim
  ·exact q.elim
 mono:=λa b q q' h k=>zc7 (λm k=>by
  split at k
  ·refine za5 (λi k=>⟨k.1,k.2.1,?_⟩) k
   have k:=k.2.2
   split at k
   ·split at k
    ·exact h _ _ k
    ·exact k.elim
   ·exact k.elim
  ·exact k.elim) k
def zsC:M->M->D->(M->Prop)->Prop:=λm a d q=>match m with
 | .lst ds=>zc4 a λi=>match ixN ds.length i with
   | some j=>q (.lst (ds.set j d))
   | none=>False
 | _=>False
def zsD:M->M->D->(M->Prop)->Prop:=λm a d q=>match m with
 | .dK kvs=>(match keyK a.d with
   | some k=>kvs.length<16777216/\q (.dK (setK kvs k d))
   | none=>False)
 | .dT kvs=>(match keyT a.d with
   | some k=>kvs.length<16777216/\q (.dT (setK kvs k d))
   | none=>False)
 | _=>False
def opSt:M->M->D->(M->Prop)->Prop:=λm a d q=>match m with
 | .lst ds=>zsC (.lst ds) a d q
 | m=>zsD m a d q
abbrev rSet:TSet:=λo i v H Q=>rSetL o i v H Q\/rSetD o i v H Q
theorem zsE (hu:X.A.units+64<cLine):PSet X rSet:=by
 intro pins s σ H o i v ov iv u Q I ro ri rv h
 rcases h with h | h
 ·exact set_list pins s σ H o i v ov iv u Q I ro ri rv h
 ·exact set_dict (by omega) pins s σ H o i v ov iv u Q I ro ri rv h
theorem zqp (a b:M) (d:D) (q q':M->Prop) (h:∀ m,q m->q' m) (k:opSt a b d q):opSt a b d q':=by
 unfold opSt zsC zsD at *
 split at k
 ·exact za5 (λi k=>by
   split at k
   ·exact h _ k
   ·exact k.elim) k
 ·split at k
  ·split at k
   ·exact ⟨k.1,h _ k.2⟩
   ·exact k.elim
  ·split at k
   ·exact ⟨k.1,h _ k.2⟩
   ·exact k.elim
  ·exact k.elim
theorem snd_st:SndP K rSet opSt where
 run:=λG H p m F i mi F' v d Q ex w w' rv q=>by
  unfold opSt at q
  split at q
  ·unfold zsC at q
   obtain ⟨k,rfl,q⟩:=zbs ⟨F',w'⟩ q
   split at q
   ·rename_i j ej
    obtain ⟨vs,h,r⟩:=zkX w
    exact .inl ⟨p,vs,k,j,rfl,rfl,h,by rw [r.length]; exact ej,q _ (.lst (Reps.set rv j r))⟩
   ·exact q.elim
  ·unfold zsD at q
   split at q
   ·split at q
    ·rename_i k ek
     have hk:=ziA w' ek
     subst hk
     cases w with
     | dK h r=>exact .inr ⟨p,_,rfl,DPut.k h (by rw [r.length,← zu4]; exact q.1),q.2 _ (.dK (zsp rv r))⟩
    ·exact q.elim
   ·split at q
    ·rename_i k ek
     obtain ⟨b,rfl,hb⟩:=zkR ex w' ek
     cases w with
     | dT h r=>exact .inr ⟨p,_,rfl,DPut.t h hb (by rw [r.length,← zu4]; exact q.1),q.2 _ (.dT (zsq rv r))⟩
    ·exact q.elim
   ·exact q.elim
 mono:=zqp
def zf9:M->OPN:=λm ms q=>one ms λa=>match m.d,a.d with
 | .str s,.lst ds=>∃ ts:List Str,ds=ts.map D.str/\(ts.map (·.length)).sum+ts.length*s.length<=16777216/\q (.fz (.str (Txt.join s ts)))
 | _,_=>False
theorem ze2:SndT K (λx xs H Q=>∃ a p,∃ ys:List Str,x=.str a/\xs=[.ref p]/\(SqL K H p (ys.map V.str)\/SqT K H p (ys.map V.str)) /\
 (ys.map (·.length)).sum+ys.length*a.length<=16777216/\Q (.str (Txt.join a ys)) H) zf9 where
 run:=λG H x mx F xs ms Q ex w ow q=>by
  obtain ⟨v,a,rfl,rfl,⟨F',w'⟩,q⟩:=zd9 ow q
  split at q
  ·rename_i s ds e1 e2
   obtain ⟨ts,rfl,h1,q⟩:=q
   have h2:=zaY (u:=.str s) w (by rw [e1]; rfl)
   subst h2
   obtain ⟨b,vs,rfl,h3,r3⟩:=zdq ex w' e2
   have:=r3.strs
   subst this
   exact ⟨s,b,ts,rfl,rfl,.inl (.of h3),h1,q _ _ (.same (.str _))⟩
  ·exact q.elim
 mono:=λa b q q' h k=>zc7 (λm k=>by
  split at k
  ·obtain ⟨ts,e,h1,k⟩:=k
   exact ⟨ts,e,h1,h _ k⟩
  ·exact k.elim) k
def zsF:M->OPN:=λm ms q=>one ms λa=>match m.d,a.d with
 | .str s,.str t=>(match Builtin.Str.occurrences s t 0 s.length 1 with
   | i::_=>q (.fz (.int (i:Nat)))
   | []=>False)
 | _,_=>False
theorem zu6:SndT K (λx xs H Q=>∃ a b i rest,x=.str a/\xs=[.str b]/\Builtin.Str.occurrences a b 0 a.length 1=i::rest/\Q (.int (i:Nat)) H) zsF where
 run:=λG H x mx F xs ms Q ex w ow q=>by
  obtain ⟨v,a,rfl,rfl,⟨F',w'⟩,q⟩:=zd9 ow q
  split at q
  ·rename_i s t e1 e2
   have h1:=zaY (u:=.str s) w (by rw [e1]; rfl)
   have h2:=zaY (u:=.str t) w' (by rw [e2]; rfl)
   subst h1 h2
   split at q
   ·rename_i i rest e
    exact ⟨s,t,i,rest,rfl,rfl,e,q _ _ (.same (.int _))⟩
   ·exact q.elim
  ·exact q.elim
 mono:=λa b q q' h k=>zc7 (λm k=>by
  split at k
  ·split at k
   ·exact h _ k
   ·exact k.elim
  ·exact k.elim) k
end
section
variable {y:Y} {κ:List (Nat×V)} {pos:Pos}
theorem xv (i:Nat) {x:Str} (hN:y.X.N[i]?=some x:=by rfl) (hv:Vis y.X.env.scope x:=by first | exact .inl rfl | exact .inr (.inl rfl) | exact .inr (.inr rfl)) (hd:(x==("__debug__" : Str))=false:=by decide)
 (hcd:(x==("__classdict__" : Str))=false:=by decide):SE y (.Name x pos) (wVar i):=se_var hN hv hd hcd
theorem xp (i:Nat) {x:Str} (hN:y.X.N[i]?=some x:=by rfl) (hv:Vis y.X.env.scope x:=by first | exact .inl rfl | exact .inr (.inl rfl) | exact .inr (.inr rfl)) (hd:(x==("__debug__" : Str))=false:=by decide)
 (hcd:(x==("__classdict__" : Str))=false:=by decide):SO y (.Name x pos) (oPk i):=so_pk hN hv hd hcd
theorem xI {i:Int} {j:Nat}:SE y (.Constant (.int i) j pos) (wC (.int i)):=zeZ pe_int λ_=>.int i
theorem xS {i:Str} {j:Nat}:SE y (.Constant (.str i) j pos) (wC (.str i)):=zeZ pe_str λ_=>.str i
theorem xB {i:Bool} {j:Nat}:SE y (.Constant (.bool i) j pos) (wC (.bl i)):=zeZ pe_bl λ_=>.bl i
theorem xN {j:Nat}:SE y (.Constant .none j pos) (wC .non):=zeZ pe_non λ_=>.non
inductive Cst (mg:Str->Option Value) (x:Str):D->Prop
 | int {i:Int} {t:Tok} (h:mg x=some (.int i t)):Cst mg x (.int i)
 | str {i:Str} {t:Tok} (h:mg x=some (.str i t)):Cst mg x (.str i)
theorem xG {x:Str} {d:D} (c:Cst y.X.mg x d) (hg:Gl y.X x:=by rfl) (hd:(x==("__debug__" : Str))=false:=by decide):SE y (.Name x pos) (wC d):=by
 cases c with
 | int h=>exact zsy hg h hd
 | str h=>exact zsx hg h hd
theorem xTy {x:Str} {n:String} (hm:y.X.mg x=none) (hv:bootBuiltins x=some (.type n)) (hg:Gl y.X x:=by rfl) (hn:x ≠ "__name__" := by decide) (hd:(x==("__debug__" : Str))=false:=by decide):SE y (.Name x pos) (wC (.ty n)) :=
 zeZ (pe_bltn hg hm hv (v:=.ty n) rfl hn hd) λ_=>.ty n
variable {a b c e:Expr} {es:List Expr} {oa ob oc:WO} {wa wb:WE} {o o':CmpOp} {r r':R2} {op op':OP2} {ws:WA} {ta:WT}
theorem zae {oo:WO} {w:WA} (h:SO y e oo) (hr:SA y es w) (hs:starEach (e::es) y.X.env=(false,eval e y.X.env)::starEach es y.X.env:=by rfl):SA y (e::es) (zag oo w):=zhl h hr hs
theorem xcmp (o:CmpOp) (ho:OpR y.X (compareOp o) r) (hs:Snd2 y.X.K r op) (ha:SO y a oa) (hb:SO y b ob) (hm:behindInMarks o b=false:=by rfl):SE y (.Compare a [o] [b] pos) (w2 op oa ob):=se_cmp ho hs ha hb hm
theorem tcmp (o:CmpOp) (ho:OpR y.X (compareOp o) r) (hs:Snd2 y.X.K r op) (ha:SO y a oa) (hb:SO y b ob) (hm:behindInMarks o b=false:=by rfl):ST y (.Compare a [o] [b] pos) (tVal (w2 op oa ob)):=st_cmp ho hs ha hb hm
theorem xchn (o o':CmpOp) (ho:OpR y.X (compareOp o) r) (ho':OpR y.X (compareOp o') r') (hs:Snd2 y.X.K r op) (hs':Snd2 y.X.K r' op') (ha:SO y a oa) (hb:SO y b ob) (hc:SO y c oc) (hm:lastMarks [o,o'] [b,c]=false:=by rfl) :
 SE y (.Compare a [o,o'] [b,c] pos) (zeN op op' oa ob oc):=zsv ho ho' hs hs' ha hb hc hm
theorem tchn (o o':CmpOp) (ho:OpR y.X (compareOp o) r) (ho':OpR y.X (compareOp o') r') (hs:Snd2 y.X.K r op) (hs':Snd2 y.X.K r' op') (ha:SO y a oa) (hb:SO y b ob) (hc:SO y c oc) (hm:lastMarks [o,o'] [b,c]=false:=by rfl) :
 ST y (.Compare a [o,o'] [b,c] pos) (tVal (zeN op op' oa ob oc)):=zsw ho ho' hs hs' ha hb hc hm
theorem xix (ha:SO y a oa) (hb:SO y b ob) (hu:y.X.A.units+64<cLine) (hp:PlainIx b:=by exact λ_ _=>rfl):SE y (.Subscript a b pos) (w2 opIx oa ob):=se_ix (ix_all hu) snd_ix ha hb hp
theorem xsl {lo hi:Option Expr} {p2:Pos} {wl wh:WP} (ha:SO y a oa) (hl:SP' y lo wl) (hh:SP' y hi wh):SE y (.Subscript a (.Slice lo hi none p2) pos) (wSl opSl oa wl wh):=zr6 sl_all snd_sl ha hl hh
theorem ttru (h:SO y e oa) (he:∀ whole,isTrue e y.X.env whole=(do let v ← whole; standAt e.pos; holding [v] (truthy v)):=by exact λ_=>rfl):ST y e (tTru oa):=st_tru h he
theorem xblt {id:String} {x:Str} {p:Pos} {rN:List V->Hp->VK->Prop} {oN:OPN} (hm:y.X.mg x=none) (hc:CallR y.X (.builtin id) rN) (hs:SndN y.X.K rN oN) (hv:bootBuiltins x=some (.builtin id)) (ha:SA y (e::es) ws) (hg:Gl y.X x:=by rfl)
 (hn:x ≠ "__name__" := by decide) (hdb:(x==("__debug__" : Str))=false:=by decide) (he:starEach (e::es) y.X.env=(false,eval e y.X.env)::starEach es y.X.env:=by rfl) (hpl:(backTo pos (starEach es y.X.env)).any (·.1)=false:=by rfl) :
 SE y (.Call (.Name x p) (e::es) [] pos) (wN oN ws):=zr5 hc hs hg hm hv ha hn hdb he hpl
theorem xty {T:String} {x:Str} {p:Pos} {rN:List V->Hp->VK->Prop} {oN:OPN} (hm:y.X.mg x=none) (hc:CallR y.X (.type T) rN) (hs:SndN y.X.K rN oN) (hv:bootBuiltins x=some (.type T)) (ha:SA y (e::es) ws) (hg:Gl y.X x:=by rfl)
 (hn:x ≠ "__name__" := by decide) (hdb:(x==("__debug__" : Str))=false:=by decide) (he:starEach (e::es) y.X.env=(false,eval e y.X.env)::starEach es y.X.env:=by rfl) (hpl:(backTo pos (starEach es y.X.env)).any (·.1)=false:=by rfl) :
 SE y (.Call (.Name x p) (e::es) [] pos) (wN oN ws):=zpN hc hs hg hm hv ha hn hdb he hpl
theorem xm {T id:String} {name:Str} {x:Str} {opm:OPM} {rm:V->List V->Hp->VK->Prop} {px apos:Pos} (i:Nat) (pa:PlainAttrs T) (slot:Slot T name id) (hty:typeOf (.builtin id)=pure (.type "method_descriptor")) (hm:MtR y.X id rm) (hs:SndM y.X.K T rm opm) (ha:SA y (e::es) ws)
 (hN:y.X.N[i]?=some x:=by rfl) (hv:Vis y.X.env.scope x:=by first | exact .inl rfl | exact .inr (.inl rfl) | exact .inr (.inr rfl)) (hd:(x==("__debug__" : Str))=false:=by decide) (hcd:(x==("__classdict__" : Str))=false:=by decide)
 (c:zsz y (.Name x px) name apos pos e es:=by exact ⟨rfl,rfl,rfl,rfl,rfl⟩):SE y (.Call (.Attribute (.Name x px) name apos) (e::es) [] pos) (wMut T opm i ws):=se_mut pa slot hty hm hs c hN hv hd hcd ha
theorem xmt {T id:String} {name:Str} {opt:M->OPN} {rm:V->List V->Hp->VK->Prop} {apos:Pos} (pa:PlainAttrs T) (slot:Slot T name id) (hty:typeOf (.builtin id)=pure (.type "method_descriptor")) (hm:MtR y.X id rm) (hs:SndT y.X.K rm opt) (ho:SO y a oa) (ha:SA y (e::es) ws)
 (c:zsz y a name apos pos e es:=by exact ⟨rfl,rfl,rfl,rfl,rfl⟩):SE y (.Call (.Attribute a name apos) (e::es) [] pos) (wMt T opt oa ws):=se_mt pa slot hty hm hs c ho ha
def Cal (P:Program) (w:World) (K:PySem.W.Frag) (mg:Str->Option Value) (base:Heap) (xr:Xn->Value->Option Addr->Hp->Prop) (k:Nat) (x:Str) (fn:Fn):Prop :=
 zcS fn.sp/\∃ f fd ps,FnOk P w K mg base (L2.CX P w) k f fd ps (spOf K xr fn)/\mg x=some (.ref f)/\PySem.W.keepIn K (.ref f)=true/\Binds K fd ps []
theorem xc {x:Str} {k:Nat} {fn:Fn} {p:Pos} (F:Cal y.X.prog y.X.w y.X.K y.X.mg y.X.base y.xr k x fn) (hr:Room k y.X.A) (ha:SA y (e::es) ws)
 (tk:Takes y.X y.W:=by first | exact takes_of rfl rfl rfl rfl | exact takes0) (hg:Gl y.X x:=by rfl) (hdb:(x==("__debug__" : Str))=false:=by decide)
 (he:starEach (e::es) y.X.env=(false,eval e y.X.env)::starEach es y.X.env:=by rfl) (hpl:(backTo pos (starEach es y.X.env)).any (·.1)=false:=by rfl):SE y (.Call (.Name x p) (e::es) [] pos) (za0 fn ws):=by
 obtain ⟨hf,f,fd,ps,F,hm,hk,hb⟩:=F
 exact zkO F hr hg hm hk hb (λσ=>passAt tk σ) hf ha hdb he hpl
theorem zlR {kp:List Nat} {vs:List V} {i:Nat} (h:kp.contains i=false):∀ p∈zcB kp vs,p.1≠i:=λp hp e=>by
 obtain ⟨j,hj,rfl⟩:=yal.mp hp
 have e:j=i:=e
 subst e
 have:=yaT.mpr (ya1.mp hj).1
 rw [h] at this
 cases this
variable {bs cs:WS}
theorem yset (i:Nat) {x:Str} {pos':Pos} (h:SE y e wa) (nd:y.X.N.Nodup) (hi:y.X.N[i]?=some x:=by rfl) (hx:Loc y.X.env.scope x:=by first | exact .inl rfl | exact .inr rfl) (hs:swapsWith e (some (.Name x pos')) pos.line y.X.env=pure false:=by rfl)
 (hf:y.X.fn x=true\/y.X.env.scope.names.lookup x=some .local:=by first | exact .inl rfl | exact .inr rfl) (hκ:∀ p∈κ,p.1≠i:=by exact zlR rfl):SS y κ (.Assign [.Name x pos'] e pos) (sSet i wa):=ss_set nd hi hx h hs hf hκ
theorem yseq {st:Stmt} {rest:List Stmt} (h1:SS y κ st bs) (h2:SSs y κ rest cs):SSs y κ (st::rest) (sSeq bs cs):=zr7 h1 h2
theorem yret (h:SO y e oa):SS y κ (.Return (some e) pos) (sRet oa):=ss_ret h
theorem yex (h:SE y e wa) (hs:swapsWith e none pos.line y.X.env=pure false:=by rfl):SS y κ (.Expr e pos) (zoN wa):=zuI h hs
theorem yif {xs ys:List Stmt} (h:ST y e ta) (ha:SSs y κ xs bs) (hb:SSs y κ ys cs):SS y κ (.If e xs ys pos) (sIf ta bs cs):=ss_if h ha hb
theorem gn (i:Nat) {x:Str} (nd:y.X.N.Nodup) (hi:y.X.N[i]?=some x:=by rfl) (hx:Loc y.X.env.scope x:=by first | exact .inl rfl | exact .inr rfl) (hf:y.X.fn x=true\/y.X.env.scope.names.lookup x=some .local:=by first | exact .inl rfl | exact .inr rfl) :
 PG y.X (.Name x pos) ((Tg.nm i).tg y.X.K):=pg_name nd hi hx hf
theorem gnil:PGs y.X [] (Tg.tgs y.X.K []):=pgs_nil
theorem zm2 {t:Tg} {ts:List Tg} (h1:PG y.X e (t.tg y.X.K)) (h2:PGs y.X es (Tg.tgs y.X.K ts)) (hs:(assignEach (e::es) y.X.env).map (·.2)=assign e y.X.env::(assignEach es y.X.env).map (·.2):=by rfl):PGs y.X (e::es) (Tg.tgs y.X.K (t::ts)):=pgs_cons h1 h2 hs
theorem gtup {k:Nat} {ts:List Tg} (hc:y.X.calm=true) (h:PGs y.X es (Tg.tgs y.X.K ts)) (hn:(assignEach es y.X.env).length=ts.length:=by rfl) (hst:(assignEach es y.X.env).findIdx? (·.1)=none:=by rfl):PG y.X (.Tuple es k pos) ((Tg.tp ts).tg y.X.K):=pg_tup hc h hn hst
theorem zqq {kp:List Nat} {vs:List V} {l:List Nat} (h:l.all (λi => !kp.contains i)=true):∀ p∈zcB kp vs,p.1∉l:=λp hp hm=>by
 have:=yam.mp h _ hm
 exact zlR (i:=p.1) (by simpa using this) p hp rfl
theorem yasg {tg:Tg} {target:Expr} (h:SE y e wa) (hg:PG y.X target (tg.tg y.X.K)) (hs:swapsWithSole [target] e pos.line y.X.env=pure false:=by rfl) (hw:swappedStores [target] e y.X.env=pure none:=by rfl)
 (h1:(assignEach [target] y.X.env).map (·.2)=[assign target y.X.env]:=by rfl) (hκ:∀ p∈κ,p.1∉tg.slots:=by exact zqq rfl):SS y κ (.Assign [target] e pos) (sAsg tg wa):=ss_asg hg h hs hw h1 hκ
theorem yfor {tg:Tg} {target iter:Expr} {body:List Stmt} {wi:WI} (hp:PassesOwn (model y.X.prog y.X.w) y.X.A y.X.env y.X.xe) (hc:y.X.calm=true) (hi:SI y target iter wi) (hg:PG y.X target (tg.tg y.X.K)) (hb:SSs y κ body bs)
 (hs:∀ x,foldedSetIterable iter y.X.env x=pure x:=by exact λ_=>rfl) (hκ:∀ p∈κ,p.1∉tg.slots:=by exact zqq rfl) (htp:(isTp target && !tg.isTp)=false:=by rfl):SS y κ (.For target iter body [] pos) (sFor wi tg bs):=ss_for hp hc hi hg hb hs hκ htp
theorem ywhile {body:List Stmt} (hp:PassesOwn (model y.X.prog y.X.w) y.X.A y.X.env y.X.xe) (h:ST y e ta) (hb:SSs y κ body bs):SS y κ (.While e body [] pos) (zlJ ta bs):=zr9 hp h hb
theorem yst {x:Str} {px sp:Pos} {ix:Expr} {oi:WO} (p:Nat) (h:SE y e wa) (hi:SO y ix oi) (hu:y.X.A.units+64<cLine) (hN:y.X.N[p]?=some x:=by rfl) (hv:Vis y.X.env.scope x:=by first | exact .inl rfl | exact .inr (.inl rfl) | exact .inr (.inr rfl))
 (hd:(x==("__debug__" : Str))=false:=by decide) (hcd:(x==("__classdict__" : Str))=false:=by decide)
 (ha:∀ v,assign (.Subscript (.Name x px) ix sp) y.X.env v=(do
  let ov ← holding [v] (eval (.Name x px) y.X.env)
  let iv ← holding [v,ov] (eval ix y.X.env)
  standAt sp
  holding [v,ov,iv] (setItem ov iv v)
  release [v,ov,iv] []):=by exact λ_=>rfl)
 (hsw:swapsWithSole [.Subscript (.Name x px) ix sp] e pos.line y.X.env=pure false:=by rfl) (hw:swappedStores [.Subscript (.Name x px) ix sp] e y.X.env=pure none:=by rfl)
 (h1:(assignEach [.Subscript (.Name x px) ix sp] y.X.env).map (·.2)=[assign (.Subscript (.Name x px) ix sp) y.X.env]:=by rfl):SS y κ (.Assign [.Subscript (.Name x px) ix sp] e pos) (sSub opSt p oi wa):=ss_sub snd_st (zsE hu) hN hv hd hcd hi h ha hsw hw h1
theorem xlc {elt tg iter:Expr} {ifs:List Expr} {scope:Scope} {wi:WI} {t:Tg} {tt:WT} {te:WE} (own:List (Str×Nat)) (ownS:List Nat) (hc:y.X.calm=true) (nd:y.X.N.Nodup) (hi:SI y tg iter wi) (ok:BlkOk y.X.N y.X.env.scope scope own)
 (hg:∀ s H C cl fp,PG (y.blk s H scope C cl fp).X tg (t.tg y.X.K)) (ht:∀ s H C cl fp,STs (y.blk s H scope C cl fp) ifs tt) (he:∀ s H C cl fp,SE (y.blk s H scope C cl fp) elt te)
 (hos:own.map (·.2)=ownS:=by rfl) (hs:∀ x,foldedSetIterable iter y.X.env x=pure x:=by exact λ_=>rfl) (ho:∀ i∈t.slots,i∈own.map (·.2):=by decide) (htp:(isTp tg && !t.isTp)=false:=by rfl):SE y (.ListComp elt [⟨tg,iter,ifs,0⟩] scope pos) (wLc wi t tt te ownS):=by
 subst hos
 let H0:Hp:=λ_=>none
 let s0:Shared:=y.X.s_0
 exact se_lc hc nd hi ok hg ht he hs ho (ht s0 H0 0 [] []).mono (he s0 H0 0 [] []).mono htp
theorem zlS {elt tg iter:Expr} {ifs:List Expr} {scope:Scope} {wi:WI} {t:Tg} {tt:WT} {te:WE} {x:Str} {py:Pos} {p2:Pos} (i:Nat) (own:List (Str×Nat)) (ownS:List Nat) (hc:y.X.calm=true) (nd:y.X.N.Nodup) (hi:SI y tg iter wi) (ok:BlkOk y.X.N y.X.env.scope scope own)
 (hg:∀ s H C cl fp,PG (y.blk s H scope C cl fp).X tg (t.tg y.X.K)) (ht:∀ s H C cl fp,STs (y.blk s H scope C cl fp) ifs tt) (he:∀ s H C cl fp,SE (y.blk s H scope C cl fp) elt te)
 (hy:y.X.N[i]?=some x:=by rfl) (hyl:y.X.env.scope.names.lookup x=some .local:=by rfl) (hsw:swapsWith (.ListComp elt [⟨tg,iter,ifs,0⟩] scope p2) (some (.Name x py)) pos.line y.X.env=pure true:=by rfl)
 (hos:own.map (·.2)=ownS:=by rfl) (hs:∀ x,foldedSetIterable iter y.X.env x=pure x:=by exact λ_=>rfl) (ho:∀ i∈t.slots,i∈own.map (·.2):=by decide) (hκ:∀ p∈κ,p.1≠i:=by exact zlR rfl) (htp:(isTp tg && !t.isTp)=false:=by rfl) :
 SS y κ (.Assign [.Name x py] (.ListComp elt [⟨tg,iter,ifs,0⟩] scope p2) pos) (sSet i (wLc wi t tt te ownS)):=by
 subst hos
 let H0:Hp:=λ_=>none
 let s0:Shared:=y.X.s_0
 exact zsa hc nd hy hyl hsw hi ok hg ht he hs ho (ht s0 H0 0 [] []).mono (he s0 H0 0 [] []).mono hκ htp
end
theorem zc8 {P:Program} {w:World} {K:PySem.W.Frag} {mg:Str->Option Value} {base:Heap} {xr:Xn->Value->Option Addr->Hp->Prop} {x:Str} {st:Stmt} {f:Addr} {fd:FuncData} {N ps:List Str} {k:Nat} {kp:List Nat} {wb:WS} {sp:List M->(M->En->Prop)->(Xn->Prop)->Prop}
 (F:Fun K x x st f fd) (hm:mg x=some (.ref f)) (hb:Binds K fd ps []) (S:FnScope N ps (defScope st))
 (hb2:∀ cdv A outer s H E vs,vs.length=ps.length->Room k (A.deeper (envOfC x (defScope st) s.heap.objs.size f cdv))->SSs (yOf P w K mg base xr N x (defScope st) f cdv A outer s H E) (zcB kp vs) (defBody st) wb)
 (hf:zcS sp) (h:∀ ms Q X,ms.length=ps.length->sp ms Q X->wFn N.length ps.length kp wb ms Q X):Cal P w K mg base xr (k+1) x ⟨ps.length,kp,sp⟩ :=
 ⟨hf,f,fd,ps,(fn_ok F S hb2).imp λvs H Q E q=>by
  obtain ⟨hl,ms,R,hm,sp,q⟩:=q
  exact ⟨hl,ms,R,hm,sp,h _ _ _ (hm.trans hl) q⟩,hm,F.kp,hb⟩
section
variable {y:Y} {κ:List (Nat×V)} {pos p:Pos} {a b c tg:Expr} {oa ob oc:WO}
theorem xr1 (hm:y.X.mg "range" = none) (ha:SO y a oa) (hg:Gl y.X "range" := by rfl) (hs:starEach [a] y.X.env=[(false,eval a y.X.env)]:=by rfl):SI y tg (.Call (.Name "range" p) [a] [] pos) (iR1 oa):=zpW hg hm ha hs
theorem xr3 (hm:y.X.mg "range" = none) (ha:SO y a oa) (hb:SO y b ob) (hc:SO y c oc) (hg:Gl y.X "range" := by rfl) (hs:starEach [a,b,c] y.X.env=[(false,eval a y.X.env),(false,eval b y.X.env),(false,eval c y.X.env)]:=by rfl)
 (hs2:starEach [b,c] y.X.env=[(false,eval b y.X.env),(false,eval c y.X.env)]:=by rfl) (hs3:starEach [c] y.X.env=[(false,eval c y.X.env)]:=by rfl):SI y tg (.Call (.Name "range" p) [a,b,c] [] pos) (iR3 oa ob oc):=zpX hg hm ha hb hc hs hs2 hs3
end
def blkB (N:List Str) (sc scope:Scope) (own:List (Str×Nat)):Bool :=
 decide (scope.kind=.function)&&scope.names.all (λz=>decide (scope.names.lookup z.1=some z.2))&&own.all (λz=>decide (N[z.2]?=some z.1)) &&
 scope.names.all (λz=>decide (z.2≠.free)||decide (sc.names.lookup z.1=some .cell)||decide (sc.names.lookup z.1=some .free)) &&
 scope.names.all (λz => !(decide (z.2=.local)||decide (z.2=.cell))||(own.map (·.1)).contains z.1 || !N.contains z.1)
theorem zdj {N:List Str} {sc scope:Scope} {own:List (Str×Nat)} (h:blkB N sc scope own=true):BlkOk N sc scope own:=by
 unfold blkB at h
 rw [yap,yap,yap,yap] at h
 obtain ⟨⟨⟨⟨h1,h2⟩,h3⟩,h4⟩,h5⟩:=h
 rw [yam] at h2 h3 h4 h5
 refine ⟨yai h1,λz hz=>yai (h2 z hz),λz hz=>yai (h3 z hz),λz hz e => ?_,λz hz e => ?_⟩
 ·have:=h4 z hz
  rw [yaZ,yaZ] at this
  rcases this with (k | k) | k
  ·exact absurd e (yai k)
  ·exact .inl (yai k)
  ·exact .inr (yai k)
 ·have:=h5 z hz
  rw [yaZ,yaZ] at this
  rcases this with (k | k) | k
  ·rw [ybG,Bool.or_eq_false_iff] at k
   rcases e with e | e
   ·exact absurd e (of_decide_eq_false k.1)
   ·exact absurd e (of_decide_eq_false k.2)
  ·exact .inl (yaT.mp k)
  ·refine .inr λhm => ?_
   rw [yaT.mpr hm] at k
   cases k
def hasK (ks:List Key) (k:Key):Bool:=ks.any λx=>decide (x=k)
theorem zkY {ks:List Key} {k:Key}:hasK ks k=true↔k∈ks:=by
 unfold hasK
 rw [yck]
 exact ⟨λ⟨x,hx,e⟩=>yai e▸hx,λh=>⟨k,h,yaj rfl⟩⟩
def addK (ks:List Key) (k:Key):List Key:=if hasK ks k=true then ks else ks++[k]
section
variable {P:Program} {w:World} {h h':Heap} {a:Addr} {ks:List Key}
theorem zsG (ks:List Key) (k:Key):(addK ks k).length<=ks.length+1:=by
 unfold addK
 split<;>simp
end
def dedK (ks:List Key):List Key:=ks.foldl addK []
section
variable {P:Program} {w:World} {A:Around} {E:Value->Shared->Prop} {s:Shared}
def bare (w:World):Obj:={ cls:=.type "set",dict:=none,data:=.set #[] 0 (.fresh 0 0 (!w.params.followText "set-order")) }
end
def wKl (ds:List D):WE:=λe Q _=>Q (.lst ds) e
theorem zqr {y:Y} {e:Expr} {w:WE} (d:D) (h:SE y e w) (i:∀ e (Q:M->En->Prop) X,Q (.fz d) e->w e Q X:=by exact λ_ _ _ q=>q):SE y e (wC d) :=
 ⟨zbH h.run λσ H Q ⟨e,P,h0,q⟩=>⟨e,P,h0,i _ _ _ q⟩,λ_ _ _ _ _ hq _ q=>hq _ _ q⟩
theorem zlT {y:Y} {e:Expr} {w:WE} (ds:List D) (h:SE y e w) (i:∀ e (Q:M->En->Prop) X,Q (.lst ds) e->w e Q X:=by exact λ_ _ _ q=>q):SE y e (wKl ds) :=
 ⟨zbH h.run λσ H Q ⟨e,P,h0,q⟩=>⟨e,P,h0,i _ _ _ q⟩,λ_ _ _ _ _ hq _ q=>hq _ _ q⟩
def Sm:Nat->D->Prop
 | _,.non=>True
 | _,.bl _=>True
 | _,.int _=>True
 | _,.str s=>s.length<=1000/\PyData.strOk s=true
 | n+1,.tup ds=>ds.length<=1000/\∀ d∈ds,Sm n d
 | n+1,.lst ds=>ds.length<=1000/\∀ d∈ds,Sm n d
 | _,_=>False
theorem zqs {n:Nat}:∀ {ds:List D},(∀ d∈ds,∃ p,d.py=some p/\p.depth<=n/\p.canLay0=true)->∃ ps,D.pys ds=some ps/\PyData.depthAll ps<=n/\PyData.canLayAll0 ps=true
 | [],_=>⟨[],rfl,ya4 _,rfl⟩
 | d::ds,h=>by
   obtain ⟨p,e1,e2,e3⟩:=h d yaa
   obtain ⟨ps,f1,f2,f3⟩:=zqs (ds:=ds) λd hd=>h d (yab _ hd)
   refine ⟨p::ps,?_,Nat.max_le.mpr ⟨e2,f2⟩,?_⟩
   ·unfold D.pys
    rw [e1,f1]
   ·unfold PyData.canLayAll0
    rw [e3,f3]
    rfl
theorem Sm.py:∀ {n:Nat} {d:D},Sm n d->∃ p,d.py=some p/\p.depth<=n/\p.canLay0=true
 | n,.non,_=>⟨.none,rfl,ya4 _,rfl⟩
 | n,.bl b,_=>⟨.bool b,rfl,ya4 _,rfl⟩
 | n,.int i,_=>⟨.int i,rfl,ya4 _,rfl⟩
 | n,.str s,h=>⟨.str s,rfl,ya4 _,by cases n<;>exact h.2⟩
 | n+1,.tup ds,h=>by
   obtain ⟨ps,f1,f2,f3⟩:=zqs (n:=n) λd hd=>Sm.py (h.2 d hd)
   exact ⟨.tuple ps,by unfold D.py; rw [f1]; rfl,ycl f2,f3⟩
 | n+1,.lst ds,h=>by
   obtain ⟨ps,f1,f2,f3⟩:=zqs (n:=n) λd hd=>Sm.py (h.2 d hd)
   exact ⟨.list ps,by unfold D.py; rw [f1]; rfl,ycl f2,f3⟩
 | 0,.tup _,h=>h.elim
 | 0,.lst _,h=>h.elim
 | 0,.scr _,h=>h.elim
 | n+1,.scr _,h=>h.elim
 | 0,.dK _,h=>h.elim
 | n+1,.dK _,h=>h.elim
 | 0,.dT _,h=>h.elim
 | n+1,.dT _,h=>h.elim
 | 0,.ty _,h=>h.elim
 | n+1,.ty _,h=>h.elim
 | 0,.att _ _,h=>h.elim
 | 0,.adr _,h=>h.elim
 | 0,.atx _ _ _,h=>h.elim
 | n+1,.att _ _,h=>h.elim
 | n+1,.adr _,h=>h.elim
 | n+1,.atx _ _ _,h=>h.elim
 | 0,.opq,h=>h.elim
 | n+1,.opq,h=>h.elim
theorem Sm.can {n:Nat} {d:D} (h:Sm n d) (hn:n<=60):canD d=true:=by
 obtain ⟨p,e,l,c⟩:=h.py
 unfold canD
 rw [e]
 show (p.canLay0&&decide (p.depth<=64))=true
 rw [c,yaj (by omega)]
 rfl
theorem zm3 {x y:D} (h:canD x=true) (h':canD y=true):eqOk x y=true:=by
 unfold eqOk
 split<;>first | rfl | (rw [h,h']; rfl)
theorem Sm.eqOk {n k:Nat} {x y:D} (h:Sm n x) (h':Sm k y) (hn:n<=60) (hk:k<=60):eqOk x y=true:=zm3 (h.can hn) (h'.can hk)
theorem Sm.ty {n:Nat} {d:D} (h:Sm n d):∃ t,tyNm d=some t:=by
 cases d<;>first
  | exact ⟨_,rfl⟩
  | (cases n<;>exact h.elim)
mutual
def NoB:PyData->Bool
 | .none=>true
 | .int _=>true
 | .str _=>true
 | .list xs=>NoBs xs
 | .tuple xs=>NoBs xs
 | _=>false
def NoBs:List PyData->Bool
 | []=>true
 | x::xs=>NoB x&&NoBs xs
end
mutual
theorem zn9:∀ {p q:PyData},NoB p=true->NoB q=true->(PyData.eqv p q=true↔p=q)
 | .none,q,_,h=>by cases q<;>first | (simp [PyData.eqv]; done) | cases h
 | .int i,q,_,h=>by cases q<;>first | (simp [PyData.eqv]; done) | cases h
 | .str i,q,_,h=>by cases q<;>first | (simp [PyData.eqv]; done) | cases h
 | .list xs,q,h',h=>by
   cases q<;>first
    | cases h; done
    | (simp [PyData.eqv]; done)
    | (rename_i ys
       unfold PyData.eqv
       rw [eqvs_same h' h]
       exact ⟨λe=>by rw [e],λe=>PyData.list.inj e⟩)
 | .tuple xs,q,h',h=>by
   cases q<;>first
    | cases h; done
    | (simp [PyData.eqv]; done)
    | (rename_i ys
       unfold PyData.eqv
       rw [eqvs_same h' h]
       exact ⟨λe=>by rw [e],λe=>PyData.tuple.inj e⟩)
 | .bool _,_,h,_=>by cases h
 | .dict _,_,h,_=>by cases h
theorem eqvs_same:∀ {p q:List PyData},NoBs p=true->NoBs q=true->(PyData.eqvAll p q=true↔p=q)
 | [],[],_,_=>by simp [PyData.eqvAll]
 | [],_::_,_,_=>by simp [PyData.eqvAll]
 | _::_,[],_,_=>by simp [PyData.eqvAll]
 | x::xs,y::ys,h,h'=>by
   unfold NoBs at h h'
   rw [yap] at h h'
   unfold PyData.eqvAll
   rw [yap,zn9 h.1 h'.1,eqvs_same h.2 h'.2,List.cons.injEq]
end
mutual
theorem ztU:∀ {x y:D} {p:PyData},x.py=some p->y.py=some p->x=y
 | .non,y,p,h,h'=>by cases h; cases y<;>simp [D.py] at h'<;>rfl
 | .bl b,y,p,h,h'=>by cases h; cases y<;>simp_all [D.py]
 | .int b,y,p,h,h'=>by cases h; cases y<;>simp_all [D.py]
 | .str b,y,p,h,h'=>by cases h; cases y<;>simp_all [D.py]
 | .tup ds,y,p,h,h'=>by
   unfold D.py at h
   obtain ⟨ps,e,rfl⟩:=yaJ.mp h
   cases y with
   | tup es =>
     unfold D.py at h'
     obtain ⟨qs,e',e2⟩:=yaJ.mp h'
     cases e2
     rw [pys_inj e e']
   | _=>simp [D.py] at h'
 | .lst ds,y,p,h,h'=>by
   unfold D.py at h
   obtain ⟨ps,e,rfl⟩:=yaJ.mp h
   cases y with
   | lst es =>
     unfold D.py at h'
     obtain ⟨qs,e',e2⟩:=yaJ.mp h'
     cases e2
     rw [pys_inj e e']
   | _=>simp [D.py] at h'
 | .ty _,_,_,h,_=>by simp [D.py] at h
 | .opq,_,_,h,_=>by simp [D.py] at h
 | .scr _,_,_,h,_=>by simp [D.py] at h
 | .dK _,_,_,h,_=>by simp [D.py] at h
 | .dT _,_,_,h,_=>by simp [D.py] at h
theorem pys_inj:∀ {x y:List D} {p:List PyData},D.pys x=some p->D.pys y=some p->x=y
 | [],[],_,_,_=>rfl
 | [],y::ys,p,h,h'=>by
   cases h
   unfold D.pys at h'
   split at h'<;>simp at h'
 | x::xs,[],p,h,h'=>by
   cases h'
   unfold D.pys at h
   split at h<;>simp at h
 | x::xs,y::ys,p,h,h'=>by
   unfold D.pys at h h'
   split at h
   ·rename_i a as e1 e2
    cases h
    split at h'
    ·rename_i b bs f1 f2
     simp only [ycc,List.cons.injEq] at h'
     obtain ⟨g1,g2⟩:=h'
     subst g1 g2
     rw [ztU e1 f1,pys_inj e2 f2]
    ·cases h'
   ·cases h
end
def nob (d:D):Bool:=match d.py with
 | some p=>NoB p
 | none=>false
theorem zqt {x y:D} (h:nob x=true) (h':nob y=true):eqD x y=true↔x=y:=by
 unfold nob at h h'
 split at h
 ·rename_i p e
  split at h'
  ·rename_i q e'
   unfold eqD
   rw [e,e']
   show PyData.eqv p q=true↔_
   rw [zn9 h h']
   exact ⟨λz=>ztU e (z▸e'),λz=>yaQ (e.symm.trans (z▸e'))⟩
  ·cases h'
 ·cases h
theorem zu7 (s t:Str):eqD (.str s) (.str t)=decide (s=t):=by
 rw [ybg,zqt rfl rfl,yak]
 exact ⟨λh=>D.str.inj h,λh=>h▸rfl⟩
theorem zu8 (s t:Int):eqD (.int s) (.int t)=decide (s=t):=by
 rw [ybg,zqt rfl rfl,yak]
 exact ⟨λh=>D.int.inj h,λh=>h▸rfl⟩
theorem Sm.mono:∀ {n k:Nat} {d:D},Sm n d->n<=k->Sm k d
 | n,k,.non,_,_=>by cases k<;>trivial
 | n,k,.bl b,_,_=>by cases k<;>trivial
 | n,k,.int b,_,_=>by cases k<;>trivial
 | n,k,.str b,h,_=>by cases n<;>cases k<;>exact h
 | n+1,k+1,.tup ds,h,l=>⟨h.1,λd hd=>(h.2 d hd).mono (Nat.le_of_succ_le_succ l)⟩
 | n+1,k+1,.lst ds,h,l=>⟨h.1,λd hd=>(h.2 d hd).mono (Nat.le_of_succ_le_succ l)⟩
 | 0,_,.tup _,h,_=>h.elim
 | 0,_,.lst _,h,_=>h.elim
 | n+1,0,.tup _,_,h=>absurd h (by omega)
 | n+1,0,.lst _,_,h=>absurd h (by omega)
 | 0,_,.scr _,h,_=>h.elim
 | n+1,_,.scr _,h,_=>h.elim
 | 0,_,.dK _,h,_=>h.elim
 | n+1,_,.dK _,h,_=>h.elim
 | 0,_,.dT _,h,_=>h.elim
 | n+1,_,.dT _,h,_=>h.elim
 | 0,_,.ty _,h,_=>h.elim
 | n+1,_,.ty _,h,_=>h.elim
 | 0,_,.att _ _,h,_=>h.elim
 | 0,_,.adr _,h,_=>h.elim
 | 0,_,.atx _ _ _,h,_=>h.elim
 | n+1,_,.att _ _,h,_=>h.elim
 | n+1,_,.adr _,h,_=>h.elim
 | n+1,_,.atx _ _ _,h,_=>h.elim
 | 0,_,.opq,h,_=>h.elim
 | n+1,_,.opq,h,_=>h.elim
theorem ze3 {n:Nat} (h:n<=1000):n<=sizeLine:=by rw [sizeLine_eq]; omega
theorem atI_0 {α:Type} (x:α) (xs:List α):atI (x::xs) 0=some x:=by simp [atI,ixN]
theorem atI_1 {α:Type} (x y:α) (xs:List α):atI (x::y::xs) 1=some y:=by
 have h:(1:Int)<(xs.length:Int)+1+1:=by omega
 simp [atI,ixN,h]
theorem zqu {ds:List D} (p:D->Bool):zm1 (ds.map λd=>.bl (p d))=some (ds.map p):=by
 induction ds with
 | nil=>rfl
 | cons d ds ih =>
   rw [yau,yau]
   unfold zm1
   rw [ih]
   rfl
theorem all_map {ds:List D} (p:D->Bool):(ds.map p).all id=ds.all p:=by
 rw [yb4]
 rfl
def smB:Nat->D->Bool
 | _,.non=>true
 | _,.bl _=>true
 | _,.int _=>true
 | _,.str s=>decide (s.length<=1000)&&PyData.strOk s
 | n+1,.tup ds=>decide (ds.length<=1000)&&ds.all (smB n)
 | n+1,.lst ds=>decide (ds.length<=1000)&&ds.all (smB n)
 | _,_=>false
theorem Sm.of:∀ {n:Nat} {d:D},smB n d=true->Sm n d
 | n,.non,_=>by cases n<;>trivial
 | n,.bl b,_=>by cases n<;>trivial
 | n,.int b,_=>by cases n<;>trivial
 | n,.str s,h=>by
   have g:(decide (s.length<=1000)&&PyData.strOk s)=true:=by cases n<;>exact h
   rw [yap,yak] at g
   cases n<;>exact g
 | n+1,.tup ds,h=>by
   have h:(decide (ds.length<=1000)&&ds.all (smB n))=true:=h
   rw [yap,yak,yam] at h
   exact ⟨h.1,λd hd=>Sm.of (h.2 d hd)⟩
 | n+1,.lst ds,h=>by
   have h:(decide (ds.length<=1000)&&ds.all (smB n))=true:=h
   rw [yap,yak,yam] at h
   exact ⟨h.1,λd hd=>Sm.of (h.2 d hd)⟩
 | 0,.tup _,h=>by cases h
 | 0,.lst _,h=>by cases h
 | 0,.att _ _,h=>by cases h
 | 0,.adr _,h=>by cases h
 | 0,.atx _ _ _,h=>by cases h
 | n+1,.att _ _,h=>by cases h
 | n+1,.adr _,h=>by cases h
 | n+1,.atx _ _ _,h=>by cases h
 | 0,.scr _,h=>by cases h
 | n+1,.scr _,h=>by cases h
 | 0,.dK _,h=>by cases h
 | n+1,.dK _,h=>by cases h
 | 0,.dT _,h=>by cases h
 | n+1,.dT _,h=>by cases h
 | 0,.ty _,h=>by cases h
 | n+1,.ty _,h=>by cases h
 | 0,.opq,h=>by cases h
 | n+1,.opq,h=>by cases h
theorem zfY {α:Type} {xs:List α} {i:Int} (h0:0<=i) (h1:i<xs.length):∃ x,xs[i.toNat]?=some x/\atI xs i=some x:=by
 have hl:i.toNat<xs.length:=by omega
 refine ⟨xs[i.toNat],yad hl,?_⟩
 unfold atI ixN
 rw [yaM h0,yaM h1]
 exact yad hl
section
variable {e e1:En} {Q:M->En->Prop} {X:XQ} {QO:Opd->En->Prop} {QA:List Opd->En->Prop} {QT:Bool->En->Prop} {QP:Option Int->En->Prop} {QI:List D->En->Prop} {E:WEnds} {w wa wb:WE} {o oa ob oc:WO} {a r:WA} {t u:WT} {R S:WS} {i:Nat} {m:M} {d:D}
def mutK (T:String) (op:OPM) (i:Nat) (Q:M->En->Prop) (as:List Opd) (e1:En):Prop:=match e1[i]? with
 | some (some m)=>isTy T m=true/\zc3 as (e1.set i none) λms=>op m ms λd m'=>Q (.fz d) (e1.set i (some m'))
 | _=>False
theorem e_Mut {T:String} {op:OPM} (h:e[i]?=some (some m)) (hT:isTy T m=true) (q:r e (λas e1=>mutK T op i Q as e1) X):wMut T op i r e Q X:=by
 unfold wMut
 rw [h]
 exact ⟨hT,q⟩
theorem e_mutK {T:String} {op:OPM} {as:List Opd} (h:e[i]?=some (some m)) (hT:isTy T m=true) (q:zc3 as (e.set i none) λms=>op m ms λd m'=>Q (.fz d) (e.set i (some m'))):mutK T op i Q as e:=by
 unfold mutK
 rw [h]
 exact ⟨hT,q⟩
end
def ltS (a b:Str):Bool:=decide (a.cps.toList<b.cps.toList)
def leS (a b:Str):Bool:=decide (a.cps.toList<=b.cps.toList)
theorem zu9 {a b:Str} (h:a.cps.toList=b.cps.toList):a=b:=by
 cases a
 cases b
 rw [Str.mk.injEq]
 exact Array.toList_inj.mp h
theorem zkZ (a b:Str):leS a b = !ltS b a:=by
 unfold leS ltS
 rw [← PySem.W.not_lt_str]
theorem zlU (a b c:Str) (h:leS a b=true) (h':leS b c=true):leS a c=true :=
 yaj (List.le_trans (yai h) (yai h'))
theorem zlV (a b:Str):(leS a b||leS b a)=true:=by
 rw [yaZ]
 rcases List.le_total a.cps.toList b.cps.toList with h | h
 ·exact .inl (yaj h)
 ·exact .inr (yaj h)
theorem zlW {a b c:Str} (h:ltS a b=true) (h':ltS b c=true):ltS a c=true:=yaj (List.lt_trans (yai h) (yai h'))
theorem zm4 (a:Str):ltS a a=false:=yaN (List.lt_irrefl _)
theorem zqv {a b:Str} (h:ltS a b=true):leS a b=true:=by
 rw [zkZ]
 cases q:ltS b a with
 | false=>rfl
 | true=>exact absurd (zlW h q) (by rw [zm4]; exact yat)
theorem zqw {a b:Str} (h:leS a b=true) (n:a≠b):ltS a b=true:=by
 cases q:ltS a b with
 | true=>rfl
 | false =>
   have h2:leS b a=true:=by rw [zkZ,q]; rfl
   exact absurd (zu9 (List.le_antisymm (yai h) (yai h2))) n
theorem zoa {ns:List Str}:ns.mergeSort leS=ns↔ns.Pairwise λa b=>leS a b=true:=by
 constructor
 ·intro h
  rw [← h]
  exact ycg zlU zlV ns
 ·exact List.mergeSort_of_pairwise
theorem zoV {ns:List Str}:(ns.Pairwise λa b=>ltS a b=true)↔(ns.Pairwise λa b=>leS a b=true)/\ns.Nodup:=by
 constructor
 ·intro h
  refine ⟨h.imp λh=>zqv h,h.imp λ{a b} h e => ?_⟩
  subst e
  rw [zm4] at h
  cases h
 ·rintro ⟨h1,h2⟩
  exact h1.imp₂ (λa b h n=>zqw h n) h2
theorem zga:∀ (ks acc:List Key),(acc++ks).Nodup->ks.foldl addK acc=acc++ks
 | [],acc,_=>by rw [yaE]; rfl
 | k::ks,acc,h=>by
   have no:¬ hasK acc k=true:=λz=>by
    have:=zkY.mp z
    exact (ybc.mp h).2.2 k this k yaa rfl
   rw [ycs]
   have e:addK acc k=acc++[k]:=yaH no
   rw [e,zga ks (acc++[k]) (by rw [yah]; exact h),yah]
   rfl
theorem zoW {ks:List Key} {k:Key} (h:k∈ks):addK ks k=ks:=yaM (zkY.mpr h)
theorem zgQ:∀ (ks acc:List Key),(ks.foldl addK acc).length=acc.length+ks.length->acc.Nodup->(acc++ks).Nodup
 | [],acc,_,h=>by rw [yaE]; exact h
 | k::ks,acc,hl,h=>by
   rw [ycs,yaq] at hl
   have le:∀ (ks acc:List Key),(ks.foldl addK acc).length<=acc.length+ks.length:=by
    intro ks
    induction ks with
    | nil=>exact λ_=>yaw _
    | cons k ks ih =>
      intro acc
      have h1:=ih (addK acc k)
      have h2:=zsG acc k
      rw [ycs,yaq]
      omega
   have hk:k∉acc:=λz=>by
    rw [zoW z] at hl
    have:=le ks acc
    omega
   have e:addK acc k=acc++[k]:=yaH λz=>hk (zkY.mp z)
   rw [e] at hl
   have:=zgQ ks (acc++[k]) (by rw [hl,yax]; show _=acc.length+1+_; omega) (by
    refine ybc.mpr ⟨h,by simp,λx hx y hy z => ?_⟩
    have:y=k:=by simpa using hy
    subst this
    subst z
    exact hk hx)
   rw [yah] at this
   exact this
theorem zhX {ks:List Key}:(dedK ks).length=ks.length↔ks.Nodup:=by
 constructor
 ·intro h
  have:=zgQ ks [] (by rw [ya2,ybx]; exact h) ybr
  exact this
 ·intro h
  have:dedK ks=[]++ks:=zga ks [] h
  rw [this]
  rfl
theorem zki {ns:List Str}:(ns.map (Sum.inr:Str->Key)).Nodup↔ns.Nodup:=by
 unfold List.Nodup
 rw [ybH]
 exact ⟨λh=>h.imp λh e=>h (yaX _ e),λh=>h.imp λh e=>h (Sum.inr.inj e)⟩
section
variable {κ:Type} [DecidableEq κ]
theorem zsH {kvs:List (κ×D)} {k:κ} {v:D} (h:k∉kvs.map (·.1)):setK kvs k v=kvs++[(k,v)]:=by
 unfold setK
 rw [yaH]
 intro z
 rw [yck] at z
 obtain ⟨kv,hm,e⟩:=z
 exact h (yal.mpr ⟨kv,hm,yai e⟩)
theorem zqx {kvs:List (κ×D)} {k:κ} (h:k∉kvs.map (·.1)):getK kvs k=none:=by
 unfold getK
 rw [List.find?_eq_none.mpr]
 ·rfl
 ·intro kv hm e
  exact h (yal.mpr ⟨kv,hm,yai e⟩)
theorem zob:∀ {kvs:List (κ×D)} {k:κ} {v:D},(kvs.map (·.1)).Nodup->(k,v)∈kvs->getK kvs k=some v
 | (k',v')::kvs,k,v,nd,hm=>by
   rw [yau,ya8] at nd
   by_cases e:k'=k
   ·subst e
    rcases yao.mp hm with e | hm
    ·cases e
     simp [getK,ybo]
    ·exact absurd (yal.mpr ⟨_,hm,rfl⟩) nd.1
   ·rcases yao.mp hm with e' | hm
    ·cases e'
     exact absurd rfl e
    ·have:=zob nd.2 hm
     unfold getK at this ⊢
     rw [ybo]
     simp only [e,ybE]
     exact this
theorem zi0 {kvs:List (κ×D)} {k:κ}:(getK kvs k).isSome=decide (k∈kvs.map (·.1)):=by
 by_cases h:k∈kvs.map (·.1)
 ·rw [yaj h]
  unfold getK
  rw [Option.isSome_map,List.find?_isSome]
  obtain ⟨kv,hm,e⟩:=yal.mp h
  exact ⟨kv,hm,yaj e⟩
 ·rw [yaN h,zqx h]
  rfl
end
inductive R (α:Type) where
 | ok (a:α) | ex (x:Xn) | no
namespace R
variable {α β γ:Type}
def bind (r:R α) (f:α->R β):R β:=match r with
 | .ok a=>f a
 | .ex x=>.ex x
 | .no=>.no
def post (r:R α) (P:α->Prop) (X:Xn->Prop):Prop:=match r with
 | .ok a=>P a
 | .ex x=>X x
 | .no=>False
def calm (r:R α):R α:=match r with
 | .ok a=>.ok a
 | _=>.no
def need (c:Bool) (r:R α):R α:=if c=true then r else .no
def forN {σ:Type} (body:D->σ->(σ->R β)->R β) (after:σ->R β):List D->σ->R β
 | [],s=>after s
 | d::ds,s=>body d s λs=>forN body after ds s
def whileN {σ:Type} (body:σ->(σ->R β)->(σ->R β)->R β) (after:σ->R β):Nat->σ->R β
 | 0,_=>.no
 | n+1,s=>body s (λs=>whileN body after n s) after
@[irreducible] def most:Nat:=1000000
def lcM' (f:D->R D):List D->R (List D)
 | []=>.ok []
 | d::ds=>(f d).calm.bind λx=>(lcM' f ds).bind λxs=>.ok (x::xs)
def lcF' (f:D->R (Option D)):List D->R (List D)
 | []=>.ok []
 | d::ds=>(f d).calm.bind λx=>(lcF' f ds).bind λxs=>.ok (x.toList++xs)
def lcS' {σ:Type} (f:D->σ->R (D×σ)):List D->σ->R (List D×σ)
 | [],s=>.ok ([],s)
 | d::ds,s=>(f d s).calm.bind λp=>(lcS' f ds p.2).bind λq=>.ok (p.1::q.1,q.2)
def lcM (f:D->R D) (ds:List D):R (List D):=need (Nat.ble ds.length sizeLine) (lcM' f ds)
def lcF (f:D->R (Option D)) (ds:List D):R (List D):=need (Nat.ble ds.length sizeLine) (lcF' f ds)
def lcS {σ:Type} (f:D->σ->R (D×σ)) (ds:List D) (s:σ):R (List D×σ):=need (Nat.ble ds.length sizeLine) (lcS' f ds s)
section
variable {P:α->Prop} {Q:β->Prop} {X X':Xn->Prop} {r:R α} {f:α->R β}
theorem zbe:(r.bind f).post Q X=r.post (λa=>(f a).post Q X) X:=by cases r<;>rfl
theorem asc {g:β->R γ} {Q:γ->Prop} (h:((r.bind f).bind g).post Q X):(r.bind λx=>(f x).bind g).post Q X:=by cases r<;>exact h
theorem zaG {P':α->Prop} (h:r.post P X) (i:∀ a,P a->P' a) (j:∀ x,X x->X' x):r.post P' X':=by
 cases r with
 | ok a=>exact i a h
 | ex x=>exact j x h
 | no=>exact h
@[simp] theorem zac {a:α}:(R.ok a).bind f=f a:=ybf rfl rfl
@[simp] theorem zqy:need true r=r:=ybf rfl rfl
end
end R
open R
def intD:D->Option Int
 | .int i=>some i
 | _=>none
def nII (C:Int->Int->Prop) [∀ i j,Decidable (C i j)] (f:Int->Int->D) (a b:D):R D:=match a,b with
 | .int i,.int j=>need (decide (C i j)) (.ok (f i j))
 | _,_=>.no
instance (i j:Int):Decidable (CDiv i j):=inferInstanceAs (Decidable (_/\_))
instance (i j:Int):Decidable (CPow i j):=inferInstanceAs (Decidable (_/\_/\_))
instance (i j:Int):Decidable (CMul i j):=inferInstanceAs (Decidable (_\/_))
instance (i:Int):Decidable (rngB i):=inferInstanceAs (Decidable (_/\_))
def nSub (a b:D):R D:=match a,b with
 | .int i,.int j=>.ok (.int (i-j))
 | _,_=>.no
def nMod (a b:D):R D:=match a,b with
 | .int i,.int j=>need (decide (0<j)) (.ok (.int (i % j)))
 | _,_=>.no
def nPow:D->D->R D:=nII CPow λi j=>.int (i ^ j.toNat)
def nNeg (a:D):R D:=match a with
 | .int i=>.ok (.int (-i))
 | _=>.no
def nAdd (a b:D):R M:=match a,b with
 | .int i,.int j=>.ok (.fz (.int (i+j)))
 | .str s,.str t=>need (Nat.ble (s.length+t.length) sizeLine) (.ok (.fz (.str (s++t))))
 | .tup s,.tup t=>need (Nat.ble (s.length+t.length) sizeLine) (.ok (.fz (.tup (s++t))))
 | .lst s,.lst t=>need (Nat.ble (s.length+t.length) sizeLine) (.ok (.lst (s++t)))
 | _,_=>.no
def nMul (a b:D):R M:=match a,b with
 | .int i,.int j=>need (decide (CMul i j)) (.ok (.fz (.int (i*j))))
 | .tup ds,.int k=>need (decide (1<=k)&&decide (k<=1000)&&decide (ds.length<=1000)) (.ok (.fz (.tup (repD ds k))))
 | .lst ds,.int k=>need (decide (-(2 ^ 63)<=k)&&decide (k<2 ^ 63)&&decide (ds.length*k.toNat<=sizeLine)) (.ok (.lst (repD ds k)))
 | _,_=>.no
def nEq (neg:Bool) (a b:D):R Bool:=need (eqOk a b) (.ok (if neg=true then !eqD a b else eqD a b))
def nOrd (o:Od) (a b:D):R Bool:=match a,b with
 | .int i,.int j=>.ok (o.int i j)
 | .str s,.str t=>.ok (o.ans (decide (s.cps.toList<t.cps.toList)) (decide (t.cps.toList<s.cps.toList)))
 | x,y=>need (zuP x y) (.ok (o.ans (ltD x y) (ltD y x)))
def opqD:D->Bool
 | .opq=>true
 | _=>false
def nIs (neg:Bool) (a b:D):R Bool:=match b with
 | .non=>need (!opqD a) (.ok (if neg=true then !zqc a else zqc a))
 | _=>.no
def nInS (neg:Bool) (x:D) (ds:List D):R Bool:=match zc5 x,zd8 ds with
 | some v,some vs=>.ok (xorB neg (inV v vs))
 | _,_=>match x.py,D.pys ds with
   | some p,some ps=>need (inOk p ps) (.ok (xorB neg (ps.any λz=>PyData.eqv z p)))
   | _,_=>.no
def nIn (neg:Bool) (a b:D):R Bool:=match b with
 | .str t=>match a with
   | .str s=>(match s.cps.toList with
     | [c]=>.ok (xorB neg (decide (c∈t.cps.toList)))
     | _=>.no)
   | _=>.no
 | .dK kvs=>match keyK a with
   | some k=>.ok (xorB neg (getK kvs k).isSome)
   | none=>.no
 | .dT kvs=>match keyT a with
   | some k=>.ok (xorB neg (getK kvs k).isSome)
   | none=>.no
 | .tup ds=>nInS neg a ds
 | .lst ds=>nInS neg a ds
 | _=>.no
def ofO {α:Type} (o:Option α):R α:=match o with
 | some a=>.ok a
 | none=>.no
def nIx (a b:D):R D:=match a with
 | .tup ds=>(ofO (intD b)).bind λi=>ofO (atI ds i)
 | .lst ds=>(ofO (intD b)).bind λi=>ofO (atI ds i)
 | .scr ns=>(ofO (intD b)).bind λi=>(ofO (atI ns i)).bind λn=>.ok (.int n)
 | .str s=>(ofO (intD b)).bind λi=>(ofO (atI s.cps.toList i)).bind λc=>need (Nat.ble s.length sizeLine) (.ok (sgn c))
 | .dK kvs=>(ofO (keyK b)).bind λk=>ofO (getK kvs k)
 | .dT kvs=>(ofO (keyT b)).bind λk=>ofO (getK kvs k)
 | _=>.no
def ztV:D->Bool
 | .str s=>Nat.ble s.length sizeLine
 | _=>true
def nLen (a:D):R D:=(ofO (lenD a)).bind λn=>need (ztV a) (.ok (.int n))
def nIsi (T:String) (a:D):R Bool:=(ofO (tyNm a)).bind λt=>need (zql.contains T) (.ok (isiB t T))
def nAll (a:D):R Bool:=match a with
 | .lst ds=>(ofO (zm1 ds)).bind λbs=>.ok (bs.all id)
 | _=>.no
def zcC (a:D):R D:=match a with
 | .lst ds=>.ok (.tup ds)
 | .tup ds=>.ok (.tup ds)
 | _=>.no
def zsI (a:D):R (List D):=match a with
 | .lst ds=>.ok ds
 | .tup ds=>.ok ds
 | _=>.no
def zi1 (a:D):R (List D):=match a with
 | .lst ds=>(ofO (D.pys ds)).bind λps=>need (zet ps) (.ok (zdt ds))
 | _=>.no
def nDict (a:D):R (List (Key×D)):=match a with
 | .tup ds=>(ofO (zqn ds)).bind λkvs=>.ok (ztT [] kvs)
 | .lst ds=>(ofO (zqn ds)).bind λkvs=>.ok (ztT [] kvs)
 | .dK kvs=>.ok kvs
 | _=>.no
def nSl (a:D) (lo hi:Option Int):R M:=match a with
 | .tup ds=>.ok (.fz (.tup (cutD ds lo hi)))
 | .lst ds=>.ok (.lst (cutD ds lo hi))
 | .str s=>need (Nat.ble s.length sizeLine) (.ok (.fz (.str (cutS s lo hi))))
 | _=>.no
def nInt (a:D):R Int:=ofO (intD a)
def zoX:List D->Option (List Str)
 | []=>some []
 | .str s::ds=>(zoX ds).map (s :: ·)
 | _::_=>none
def zhp (a b:D):R D:=match a,b with
 | .str s,.lst ds=>(ofO (zoX ds)).bind λts=>need (Nat.ble ((ts.map (·.length)).sum+ts.length*s.length) 16777216) (.ok (.str (Txt.join s ts)))
 | _,_=>.no
def nSIx (a b:D):R D:=match a,b with
 | .str s,.str t=>(match Builtin.Str.occurrences s t 0 s.length 1 with
   | i::_=>.ok (.int (i:Nat))
   | []=>.no)
 | _,_=>.no
def nStL (ds:List D) (a d:D):R (List D):=(ofO (intD a)).bind λi=>(ofO (ixN ds.length i)).bind λj=>.ok (ds.set j d)
def nStK (kvs:List (Key×D)) (a d:D):R (List (Key×D)):=(ofO (keyK a)).bind λk=>need (decide (kvs.length<16777216)) (.ok (setK kvs k d))
def nStT (kvs:List (List Key×D)) (a d:D):R (List (List Key×D)):=(ofO (keyT a)).bind λk=>need (decide (kvs.length<16777216)) (.ok (setK kvs k d))
def nApp (ds:List D) (d:D):R (List D):=need (decide (ds.length<16777216)) (.ok (ds++[d]))
def nExt (ds:List D) (a:D):R (List D):=match a with
 | .lst es=>need (decide (ds.length+es.length<=16777216)) (.ok (ds++es))
 | .tup es=>need (decide (ds.length+es.length<=16777216)) (.ok (ds++es))
 | _=>.no
def nPop (ds:List D) (a:D):R (D×List D):=(ofO (intD a)).bind λi=>need (decide (-(2 ^ 63)<=i)&&decide (i<2 ^ 63)) ((ofO (seqIndex? i ds.length)).bind λk=>(ofO ds[k]?).bind λd=>.ok (d,ds.eraseIdx k))
def zbf (a:D):R (List D):=ofO (zlK a)
@[irreducible] def nR1 (a:D):R (List D):=(ofO (intD a)).bind λj=>need (decide (rngB j)) (.ok (rngD 0 j.toNat))
@[irreducible] def nR3 (a b c:D):R (List D):=(ofO (intD a)).bind fun i=>(ofO (intD b)).bind fun j=>(ofO (intD c)).bind fun c =>
  need (decide (c≠0)&&decide (c.natAbs<1073741824)&&Builtin.Range.small i j c&&decide (0<=Builtin.Range.rangeSize i j c)) (.ok (rngC i c (Builtin.Range.rangeSize i j c).toNat))
def nUn2 (a:D):R (D×D):=match a with
 | .tup [a,b]=>.ok (a,b)
 | _=>.no
def nUn3 (a:D):R (D×D×D):=match a with
 | .tup [a,b,c]=>.ok (a,b,c)
 | _=>.no
end VW
namespace VW
open PySem PySem.Spec PyProof.Rows L2 R
section
variable {β:Type} {P:β->Prop} {XP:Xn->Prop} {k:M->Prop}
theorem zbx {α:Type} {c:Bool} {r:R α} {f:α->R β} (h:((need c r).bind f).post P XP):c=true/\(r.bind f).post P XP:=by
 unfold need at h
 split at h
 ·exact ⟨by assumption,h⟩
 ·exact h.elim
theorem zm5 {α:Type} {o:Option α} {f:α->R β} (h:((ofO o).bind f).post P XP):∃ a,o=some a/\(f a).post P XP:=by
 unfold ofO at h
 split at h
 ·exact ⟨_,rfl,h⟩
 ·exact h.elim
theorem zb3 {α γ:Type} {o:Option α} {g:α->R γ} {f:γ->R β} (h:(((ofO o).bind g).bind f).post P XP):∃ a,o=some a/\((g a).bind f).post P XP:=zm5 (asc h)
theorem zm6 {m:M} {i:Int} (h:intD m.d=some i):m=.fz (.int i):=by
 unfold intD at h
 split at h
 ·rename_i e
  cases h
  cases m with
  | fz d=>exact yaX M.fz e
  | _=>cases e
 ·cases h
theorem zc9 {m:M} {i:Int} {k:Int->Prop} (h:intD m.d=some i) (q:k i):zc4 m k:=by
 rw [zm6 h]
 exact q
theorem zgR {m:M} {i:Int} (h:m.d=.int i):m=.fz (.int i):=zm6 (by rw [h]; rfl)
theorem d_str {m:M} {i:Str} (h:m.d=.str i):m=.fz (.str i):=by
 cases m with
 | fz d=>exact yaX M.fz h
 | _=>cases h
theorem zva {m:M} {i:List D} (h:m.d=.tup i):m=.fz (.tup i):=by
 cases m with
 | fz d=>exact yaX M.fz h
 | _=>cases h
theorem d_non {m:M} (h:m.d=.non):m=.fz .non:=by
 cases m with
 | fz d=>exact yaX M.fz h
 | _=>cases h
variable {ma mb:M}
theorem k_sub {f:D->R β} (h:((nSub ma.d mb.d).bind f).post P XP) (q:∀ v,(f v).post P XP->k (.fz v)):zsi ma mb k:=by
 unfold nSub at h
 split at h
 ·rename_i e1 e2
  rw [zgR e1,zgR e2]
  exact ⟨trivial,q _ h⟩
 ·exact h.elim
theorem k_II {C:Int->Int->Prop} [∀ i j,Decidable (C i j)] {g:Int->Int->D} {f:D->R β} (h:((nII C g ma.d mb.d).bind f).post P XP) (q:∀ v,(f v).post P XP->k (.fz v)):opII C g ma mb k:=by
 unfold nII at h
 split at h
 ·rename_i e1 e2
  obtain ⟨c,h⟩:=zbx h
  rw [zgR e1,zgR e2]
  exact ⟨yai c,q _ h⟩
 ·exact h.elim
theorem k_pow {f:D->R β} (h:((nPow ma.d mb.d).bind f).post P XP) (q:∀ v,(f v).post P XP->k (.fz v)):zsj ma mb k:=k_II h q
theorem zm7 {f:D->R β} (h:((nMod ma.d mb.d).bind f).post P XP) (q:∀ v,(f v).post P XP->k (.fz v)):zkP ma mb k:=by
 unfold nMod at h
 split at h
 ·rename_i e1 e2
  obtain ⟨c,h⟩:=zbx h
  rw [zgR e1,zgR e2]
  exact ⟨yai c,q _ h⟩
 ·exact h.elim
theorem k_neg {f:D->R β} (h:((nNeg ma.d).bind f).post P XP) (q:∀ v,(f v).post P XP->k (.fz v)):zuN ma k:=by
 unfold nNeg at h
 split at h
 ·rename_i e1
  rw [zgR e1]
  exact q _ h
 ·exact h.elim
theorem zqz {x y:List D} (e1:ma.d=.lst x) (e2:mb.d=.lst y) (h:x.length+y.length<=sizeLine) (q:k (.lst (x++y))):zaS ma mb k:=by
 unfold zaS
 split
 ·cases e1
 ·cases e1
 ·cases e1
 ·unfold zkd
  try rw [e1,e2]
  exact ⟨h,q⟩
theorem zbJ {f:M->R β} (h:((nAdd ma.d mb.d).bind f).post P XP) (q:∀ v,(f v).post P XP->k v):zaS ma mb k:=by
 unfold nAdd at h
 split at h
 ·rename_i e1 e2
  rw [zgR e1,zgR e2]
  exact q _ h
 ·rename_i e1 e2
  obtain ⟨c,h⟩:=zbx h
  rw [d_str e1,d_str e2]
  exact ⟨yaD c,q _ h⟩
 ·rename_i e1 e2
  obtain ⟨c,h⟩:=zbx h
  rw [zva e1,zva e2]
  exact ⟨yaD c,q _ h⟩
 ·rename_i e1 e2
  obtain ⟨c,h⟩:=zbx h
  exact zqz e1 e2 (yaD c) (q _ h)
 ·exact h.elim
theorem zvb {x:List D} {i:Int} (e1:ma.d=.lst x) (e2:mb.d=.int i) (h1:-(2 ^ 63)<=i) (h2:i<2 ^ 63) (h:x.length*i.toNat<=sizeLine) (q:k (.lst (repD x i))):zgn ma mb k:=by
 unfold zgn
 split
 ·cases e1
 ·cases e1
 ·unfold zke
  try rw [e1,e2]
  exact ⟨h1,h2,h,q⟩
theorem zm8 {f:M->R β} (h:((nMul ma.d mb.d).bind f).post P XP) (q:∀ v,(f v).post P XP->k v):zgn ma mb k:=by
 unfold nMul at h
 split at h
 ·rename_i e1 e2
  obtain ⟨c,h⟩:=zbx h
  rw [zgR e1,zgR e2]
  exact ⟨yai c,q _ h⟩
 ·rename_i ds i e1 e2
  obtain ⟨c,h⟩:=zbx h
  simp only [yap,yak] at c
  rw [zva e1,zgR e2]
  exact ⟨c.1.1,c.1.2,c.2,q _ h⟩
 ·rename_i ds i e1 e2
  obtain ⟨c,h⟩:=zbx h
  simp only [yap,yak] at c
  exact zvb e1 e2 c.1.1 c.1.2 c.2 (q _ h)
 ·exact h.elim
theorem k_eq {neg:Bool} {f:Bool->R β} (h:((nEq neg ma.d mb.d).bind f).post P XP) (q:∀ v,(f v).post P XP->k (.fz (.bl v))):opEq neg ma mb k:=by
 unfold nEq at h
 obtain ⟨c,h⟩:=zbx h
 exact ⟨c,q _ h⟩
theorem zfu {o:Od} {f:Bool->R β} (h:((nOrd o ma.d mb.d).bind f).post P XP) (q:∀ v,(f v).post P XP->k (.fz (.bl v))):zen o ma mb k:=by
 unfold nOrd at h
 unfold zen
 split at h
 ·rename_i e1 e2
  try rw [e1,e2]
  exact q _ h
 ·rename_i e1 e2
  try rw [e1,e2]
  exact q _ h
 ·rename_i x y n1 n2
  obtain ⟨c,h⟩:=zbx h
  first
  | exact ⟨c,q _ h⟩
  | split
    ·rename_i e1 e2
     exact (n1 _ _ e1 e2).elim
    ·rename_i e1 e2
     exact (n2 _ _ e1 e2).elim
    ·exact ⟨c,q _ h⟩
theorem k_is {neg:Bool} {f:Bool->R β} (h:((nIs neg ma.d mb.d).bind f).post P XP) (q:∀ v,(f v).post P XP->k (.fz (.bl v))):opIs neg ma mb k:=by
 unfold nIs at h
 split at h
 ·rename_i e
  obtain ⟨c,h⟩:=zbx h
  rw [d_non e]
  refine ⟨?_,q _ h⟩
  split
  ·rename_i e1
   rw [e1] at c
   cases c
  ·trivial
 ·exact h.elim
theorem k_inS {neg:Bool} {x:D} {ds:List D} {f:Bool->R β} (h:((nInS neg x ds).bind f).post P XP) (q:∀ v,(f v).post P XP->k (.fz (.bl v))):zkW neg x ds k:=by
 unfold nInS at h
 unfold zkW
 split at h
 ·rename_i e1 e2
  try rw [e1,e2]
  exact q _ h
 ·rename_i n1
  split at h
  ·rename_i e1 e2
   obtain ⟨c,h⟩:=zbx h
   first
   | exact ⟨c,q _ h⟩
   | split
     ·rename_i e3 e4
      exact (n1 _ _ e3 e4).elim
     ·try rw [e1,e2]
      exact ⟨c,q _ h⟩
  ·exact h.elim
theorem k_in {neg:Bool} {f:Bool->R β} (h:((nIn neg ma.d mb.d).bind f).post P XP) (q:∀ v,(f v).post P XP->k (.fz (.bl v))):opIn neg ma mb k:=by
 unfold nIn at h
 unfold opIn
 split at h
 ·rename_i e
  try rw [e]
  try dsimp only
  split at h
  ·rename_i e
   split at h
   ·rename_i e2
    try rw [e]
    try dsimp only
    try rw [e2]
    exact q _ h
   ·exact h.elim
  ·exact h.elim
 ·rename_i e
  try rw [e]
  try dsimp only
  split at h
  ·rename_i e
   try rw [e]
   exact q _ h
  ·exact h.elim
 ·rename_i e
  try rw [e]
  try dsimp only
  split at h
  ·rename_i e
   try rw [e]
   exact q _ h
  ·exact h.elim
 ·rename_i e
  try rw [e]
  exact k_inS h q
 ·rename_i e
  try rw [e]
  exact k_inS h q
 ·exact h.elim
theorem k_ix {f:D->R β} (h:((nIx ma.d mb.d).bind f).post P XP) (q:∀ v,(f v).post P XP->k (.fz v)):opIx ma mb k:=by
 unfold nIx at h
 unfold opIx
 split at h
 ·rename_i e
  try rw [e]
  obtain ⟨i,e1,h⟩:=zb3 h
  obtain ⟨d,e2,h⟩:=zm5 h
  refine zc9 e1 ?_
  try rw [e2]
  exact q _ h
 ·rename_i e
  try rw [e]
  obtain ⟨i,e1,h⟩:=zb3 h
  obtain ⟨d,e2,h⟩:=zm5 h
  refine zc9 e1 ?_
  try rw [e2]
  exact q _ h
 ·rename_i e
  try rw [e]
  obtain ⟨i,e1,h⟩:=zb3 h
  obtain ⟨d,e2,h⟩:=zb3 h
  refine zc9 e1 ?_
  try rw [e2]
  exact q _ h
 ·rename_i e
  try rw [e]
  obtain ⟨i,e1,h⟩:=zb3 h
  obtain ⟨d,e2,h⟩:=zb3 h
  obtain ⟨c,h⟩:=zbx h
  refine zc9 e1 ?_
  try rw [e2]
  exact ⟨yaD c,q _ h⟩
 ·rename_i e
  try rw [e]
  try dsimp only
  obtain ⟨i,e1,h⟩:=zb3 h
  obtain ⟨d,e2,h⟩:=zm5 h
  try rw [e1]
  try dsimp only
  try rw [e2]
  exact q _ h
 ·rename_i e
  try rw [e]
  try dsimp only
  obtain ⟨i,e1,h⟩:=zb3 h
  obtain ⟨d,e2,h⟩:=zm5 h
  try rw [e1]
  try dsimp only
  try rw [e2]
  exact q _ h
 ·exact h.elim
theorem zdY {f:D->R β} (h:((nLen ma.d).bind f).post P XP) (q:∀ v,(f v).post P XP->k (.fz v)):zdr [ma] k:=by
 unfold nLen at h
 unfold zdr one
 try dsimp only
 obtain ⟨n,e,h⟩:=zb3 h
 obtain ⟨c,h⟩:=zbx h
 try rw [e]
 refine ⟨?_,q _ h⟩
 unfold ztV at c
 unfold lenOk
 split
 ·rename_i e
  rw [e] at c
  exact yaD c
 ·trivial
theorem zlX {T:String} {f:Bool->R β} (h:((nIsi T ma.d).bind f).post P XP) (q:∀ v,(f v).post P XP->k (.fz (.bl v))):ziY [ma,.fz (.ty T)] k:=by
 unfold nIsi at h
 unfold ziY two
 try dsimp only
 obtain ⟨n,e,h⟩:=zb3 h
 obtain ⟨c,h⟩:=zbx h
 try rw [e]
 exact ⟨c,q _ h⟩
theorem k_all {f:Bool->R β} (h:((nAll ma.d).bind f).post P XP) (q:∀ v,(f v).post P XP->k (.fz (.bl v))):zst [ma] k:=by
 unfold nAll at h
 unfold zst one
 try dsimp only
 split at h
 ·rename_i e
  try rw [e]
  try dsimp only
  obtain ⟨bs,e,h⟩:=zb3 h
  try rw [e]
  exact q _ h
 ·exact h.elim
theorem zhq {f:D->R β} (h:((zcC ma.d).bind f).post P XP) (q:∀ v,(f v).post P XP->k (.fz v)):ze1 [ma] k:=by
 unfold zcC at h
 unfold ze1 one
 try dsimp only
 split at h
 ·rename_i e
  try rw [e]
  exact q _ h
 ·rename_i e
  try rw [e]
  exact q _ h
 ·exact h.elim
theorem k_list {f:List D->R β} (h:((zsI ma.d).bind f).post P XP) (q:∀ v,(f v).post P XP->k (.lst v)):zn7 [ma] k:=by
 unfold zsI at h
 unfold zn7 one
 try dsimp only
 split at h
 ·rename_i e
  try rw [e]
  exact q _ h
 ·rename_i e
  try rw [e]
  exact q _ h
 ·exact h.elim
theorem zsJ {f:List D->R β} (h:((zi1 ma.d).bind f).post P XP) (q:∀ v,(f v).post P XP->k (.lst v)):ziB [ma] k:=by
 unfold zi1 at h
 unfold ziB one
 try dsimp only
 split at h
 ·rename_i e
  try rw [e]
  try dsimp only
  obtain ⟨bs,e,h⟩:=zb3 h
  obtain ⟨c,h⟩:=zbx h
  try rw [e]
  exact ⟨c,q _ h⟩
 ·exact h.elim
theorem k_sl {lo hi:Option Int} {f:M->R β} (h:((nSl ma.d lo hi).bind f).post P XP) (q:∀ v,(f v).post P XP->k v):opSl ma lo hi k:=by
 unfold nSl at h
 unfold opSl
 split at h
 ·rename_i e
  try rw [e]
  exact q _ h
 ·rename_i e
  try rw [e]
  exact q _ h
 ·rename_i e
  obtain ⟨c,h⟩:=zbx h
  try rw [e]
  exact ⟨yaD c,q _ h⟩
 ·exact h.elim
theorem zoc:∀ {ds:List D} {ts:List Str},zoX ds=some ts->ds=ts.map D.str
 | [],_,e=>by cases e; rfl
 | d::ds,ts,e=>by
   cases d<;>first
    | (unfold zoX at e
       obtain ⟨cs,e1,rfl⟩:=yaJ.mp e
       rw [zoc e1]
       rfl)
    | (cases e; done)
theorem zi2 {f:D->R β} (h:((zhp ma.d mb.d).bind f).post P XP) (q:∀ v,(f v).post P XP->k (.fz v)):zf9 ma [mb] k:=by
 unfold zhp at h
 unfold zf9 one
 try dsimp only
 split at h
 ·rename_i e1 e2
  try rw [e1,e2]
  obtain ⟨ts,e,h⟩:=zb3 h
  obtain ⟨c,h⟩:=zbx h
  exact ⟨ts,zoc e,yaD c,q _ h⟩
 ·exact h.elim
theorem k_six {f:D->R β} (h:((nSIx ma.d mb.d).bind f).post P XP) (q:∀ v,(f v).post P XP->k (.fz v)):zsF ma [mb] k:=by
 unfold nSIx at h
 unfold zsF one
 try dsimp only
 split at h
 ·rename_i e1 e2
  try rw [e1,e2]
  try dsimp only
  split at h
  ·rename_i e
   try rw [e]
   exact q _ h
  ·exact h.elim
 ·exact h.elim
theorem k_stL {ds:List D} {d:D} {f:List D->R β} (h:((nStL ds mb.d d).bind f).post P XP) (q:∀ v,(f v).post P XP->k (.lst v)):opSt (.lst ds) mb d k:=by
 unfold nStL at h
 obtain ⟨i,e1,h⟩:=zb3 h
 obtain ⟨j,e2,h⟩:=zb3 h
 unfold opSt zsC
 refine zc9 e1 ?_
 try rw [e2]
 exact q _ h
theorem k_stK {ds:List (Key×D)} {d:D} {f:List (Key×D)->R β} (h:((nStK ds mb.d d).bind f).post P XP) (q:∀ v,(f v).post P XP->k (.dK v)):opSt (.dK ds) mb d k:=by
 unfold nStK at h
 obtain ⟨i,e1,h⟩:=zb3 h
 obtain ⟨c,h⟩:=zbx h
 unfold opSt zsD
 try dsimp only
 try rw [e1]
 exact ⟨yai c,q _ h⟩
variable {kk:D->M->Prop}
theorem zvc {ds:List D} {d:D} {f:List D->R β} (h:((nApp ds d).bind f).post P XP) (q:∀ v,(f v).post P XP->kk .non (.lst v)):zgP (.lst ds) [.fz d] kk:=by
 unfold nApp at h
 obtain ⟨c,h⟩:=zbx h
 exact ⟨yai c,q _ h⟩
theorem k_pop {ds:List D} {f:D×List D->R β} (h:((nPop ds ma.d).bind f).post P XP) (q:∀ v w,(f (v,w)).post P XP->kk v (.lst w)):zlQ (.lst ds) [ma] kk:=by
 unfold nPop at h
 obtain ⟨i,e1,h⟩:=zb3 h
 obtain ⟨c,h⟩:=zbx h
 obtain ⟨j,e2,h⟩:=zb3 h
 obtain ⟨d,e3,h⟩:=zb3 h
 simp only [yap,yak] at c
 unfold zlQ one
 try dsimp only
 refine zc9 e1 ⟨c.1,c.2,?_⟩
 try rw [e2]
 try dsimp only
 rw [e3]
 exact q _ _ h
def truK (m:M) (QT:Bool->En->Prop) (e1:En):Prop:=match truD m.d with
 | some b=>QT b e1
 | none=>False
variable {e:En} {QI:List D->En->Prop} {XX:XQ}
def itK (m:M) (QI:List D->En->Prop) (e1:En):Prop:=match zlK m.d with
 | some ds=>QI ds e1
 | none=>False
theorem zda {f:List D->R β} (h:((zbf ma.d).bind f).post P XP) (q:∀ v,(f v).post P XP->QI v e):itK ma QI e:=by
 obtain ⟨i,e1,h⟩:=zm5 h
 unfold itK
 try rw [e1]
 exact q _ h
theorem k_r1 {f:List D->R β} (h:((nR1 ma.d).bind f).post P XP) (q:∀ v,(f v).post P XP->QI v e):zc4 ma λj=>rngB j/\QI (rngD 0 j.toNat) e:=by
 unfold nR1 at h
 obtain ⟨i,e1,h⟩:=zb3 h
 obtain ⟨c,h⟩:=zbx h
 exact zc9 e1 ⟨yai c,q _ h⟩
theorem k_r3 {mc:M} {f:List D->R β} (h:((nR3 ma.d mb.d mc.d).bind f).post P XP) (q:∀ v,(f v).post P XP->QI v e):zc4 ma λi=>zc4 mb λj=>zc4 mc λc=>∃ n,RgC i j c n/\QI (rngC i c n) e:=by
 unfold nR3 at h
 obtain ⟨i,e1,h⟩:=zb3 h
 obtain ⟨j,e2,h⟩:=zb3 h
 obtain ⟨l,e3,h⟩:=zb3 h
 obtain ⟨c,h⟩:=zbx h
 simp only [yap,yak] at c
 refine zc9 e1 (zc9 e2 (zc9 e3 ⟨_,⟨c.1.1.1,c.1.1.2,c.1.2,?_⟩,q _ h⟩))
 exact (yb0 c.2).symm
end
namespace R
variable {α β:Type}
def orB (x:Bool) (b:R Bool):R Bool:=if x=true then .ok true else b
def andB (x:Bool) (b:R Bool):R Bool:=if x=true then b else .ok false
def forS {σ:Type} (body:D->σ->R σ):List D->σ->R σ
 | [],s=>.ok s
 | d::ds,s=>(body d s).bind (forS body ds)
@[simp] theorem zi3 {x b:Bool}:orB x (.ok b)=.ok (x||b):=by cases x<;>rfl
@[simp] theorem zhr {x b:Bool}:andB x (.ok b)=.ok (x&&b):=by cases x<;>rfl
end R
section
variable {β:Type} {P:β->Prop} {XP:Xn->Prop}
variable {e e1:En} {Q:M->En->Prop} {X:XQ} {QO:Opd->En->Prop} {QA:List Opd->En->Prop} {QT:Bool->En->Prop} {QP:Option Int->En->Prop} {QI:List D->En->Prop} {E:WEnds} {w wa wb:WE} {o oa ob oc:WO} {a r:WA} {t u:WT} {A B:WS} {i:Nat} {m:M} {d:D}
theorem k_c (q:Q (.fz d) e):wC d e Q X:=q
theorem k_kl {ds:List D} (q:Q (.lst ds) e):wKl ds e Q X:=q
theorem zi4 (h:e[i]?=some (some m)) (q:Q (.fz m.d) (e.set i (some (.fz m.d)))):wVar i e Q X:=by
 unfold wVar
 rw [h]
 exact q
theorem zaC (h:e[i]?=some (some (.fz d))) (q:Q (.fz d) e):wVar i e Q X:=by
 unfold wVar
 rw [h]
 have hi:=(yaf.mp h)
 have:e.set i (some (.fz d))=e:=by
  apply ybm
  intro j
  by_cases z:i=j
  ·subst z
   rw [yaO hi.1,h]
  ·rw [yaB z]
 show Q (.fz d) (e.set i (some (.fz d)))
 rw [this]
 exact q
theorem zad (q:w e (λm e1=>QO (.vl m) e1) X):oVal w e QO X:=q
theorem k_fz (q:w e (λm e1=>QO (.vl (.fz m.d)) e1) X):oFz w e QO X:=q
theorem k_pk (h:e[i]?=some (some m)) (q:QO (.pk i) e):oPk i e QO X:=by
 unfold oPk
 rw [h]
 exact q
theorem k_wv {k:M->Prop} (q:k m):zbB (.vl m) e k:=q
theorem k_wp {k:M->Prop} (h:e[i]?=some (some m)) (q:k m):zbB (.pk i) e k:=by
 unfold zbB
 try dsimp only
 rw [h]
 exact q
theorem k_an (q:QA [] e):aNil e QA X:=q
theorem k_ac (q:o e (λa e1=>r e1 (λas e2=>QA (a::as) e2) X) X):zag o r e QA X:=q
theorem zat {k:List M->Prop} (q:k []):zc3 [] e k:=q
theorem zap {as:List Opd} {k:List M->Prop} (q:zc3 as e λms=>k (m::ms)):zc3 (.vl m::as) e k:=q
theorem zcD {as:List Opd} {k:List M->Prop} (h:e[i]?=some (some m)) (q:zc3 as e λms=>k (m::ms)):zc3 (.pk i::as) e k:=by
 unfold zc3
 exact k_wp h q
theorem k_w1 {op:OP1} (q:o e (λa e1=>zbB a e1 λma=>op ma λm=>Q m e1) X):w1 op o e Q X:=q
theorem k_w2 {op:OP2} (q:oa e (λa e1=>ob e1 (λb e2=>zbB a e2 λma=>zbB b e2 λmb=>op ma mb λm=>Q m e2) X) X):w2 op oa ob e Q X:=q
theorem k_wN {op:OPN} (q:a e (λas e1=>zc3 as e1 λms=>op ms λm=>Q m e1) X):wN op a e Q X:=q
theorem zcq {op:OPS} {lo hi:WP} (q:o e (λa e1=>lo e1 (λl e2=>hi e2 (λh e3=>zbB a e3 λma=>op ma l h λm=>Q m e3) X) X) X):wSl op o lo hi e Q X:=q
theorem zcr (q:QP none e):pNo e QP X:=q
def pintK (QP:Option Int->En->Prop) (m:M) (e1:En):Prop:=match m with
 | .fz (.int i)=>QP (some i) e1
 | _=>False
theorem zbn (q:w e (λm e1=>pintK QP m e1) X):pInt w e QP X:=q
theorem zbo {f:Int->R β} (h:((nInt m.d).bind f).post P XP) (q:∀ v,(f v).post P XP->QP (some v) e):pintK QP m e:=by
 obtain ⟨i,e1,h⟩:=zm5 h
 rw [zm6 e1]
 exact q _ h
theorem zin {T:String} {op:M->OPN} (q:o e (λa e1=>zbB a e1 (λm=>mTy T m.d=true)/\r e1 (λas e2=>zbB a e2 λm=>zc3 as e2 λms=>op m ms λr=>Q r e2) X) X):wMt T op o r e Q X:=q
theorem zgS {k:M->Prop} {ms:List M} {ds:List D} (h:fzs ms=some ds) (hl:Nat.ble ds.length 4096=true) (q:k (.fz (.tup ds))):zfo ms k:=by
 unfold zfo dsl
 rw [h]
 try dsimp only
 rw [hl]
 exact q
theorem zdb {k:M->Prop} {ms:List M} {ds:List D} (h:fzs ms=some ds) (hl:Nat.ble ds.length 4096=true) (q:k (.lst ds)):zcd ms k:=by
 unfold zcd dsl
 rw [h]
 try dsimp only
 rw [hl]
 exact q
theorem k_dK (q:Q (.dK []) e):zuF e Q X:=.inl q
def tvK (QT:Bool->En->Prop) (m:M) (e1:En):Prop:=match m with
 | .fz (.bl b)=>QT b e1
 | _=>False
theorem zbg (q:w e (λm e1=>tvK QT m e1) X):tVal w e QT X:=q
theorem j_tv {b:Bool} (q:QT b e):tvK QT (.fz (.bl b)) e:=q
theorem zea (q:o e (λa e1=>zbB a e1 λm=>truK m QT e1) X):tTru o e QT X:=q
theorem zc1 (q:t e (λb e1=>QT (!b) e1) X):zel t e QT X:=q
def orK (QT:Bool->En->Prop) (u:WT) (X:XQ) (x:Bool) (e1:En):Prop:=if x=true then QT true e1 else u e1 QT X
def andK (QT:Bool->En->Prop) (u:WT) (X:XQ) (x:Bool) (e1:En):Prop:=if x=true then u e1 QT X else QT false e1
theorem zfv (q:t e (λb e1=>orK QT u X b e1) X):tOrW t u e QT X:=q
theorem k_tand (q:t e (λb e1=>andK QT u X b e1) X):zr1 t u e QT X:=q
variable {α:Type} {f:α->R β} {x:Bool} {a1 a2:R α}
theorem zsK {A1 A2:R α} (h:((if x=true then A1 else A2).bind f).post P XP) {G1 G2:Prop} (h1:(A1.bind f).post P XP->G1) (h2:(A2.bind f).post P XP->G2):if x=true then G1 else G2:=by
 cases x
 ·exact h2 h
 ·exact h1 h
theorem zfw (mk:α->Bool) (en:α->En) (h:((if x=true then a1 else a2).bind f).post P XP) (h1:(∀ v,(f v).post P XP->QT (mk v) (en v))->(a1.bind f).post P XP->QT true e1)
 (h2:(∀ v,(f v).post P XP->QT (mk v) (en v))->(a2.bind f).post P XP->u e1 QT X) (J:∀ v,(f v).post P XP->QT (mk v) (en v)):orK QT u X x e1:=zsK h (h1 J) (h2 J)
theorem j_tand (mk:α->Bool) (en:α->En) (h:((if x=true then a1 else a2).bind f).post P XP) (h1:(∀ v,(f v).post P XP->QT (mk v) (en v))->(a1.bind f).post P XP->u e1 QT X)
 (h2:(∀ v,(f v).post P XP->QT (mk v) (en v))->(a2.bind f).post P XP->QT false e1) (J:∀ v,(f v).post P XP->QT (mk v) (en v)):andK QT u X x e1:=zsK h (h1 J) (h2 J)
def worK (Q:M->En->Prop) (w:WE) (X:XQ) (m:M) (e1:En):Prop:=match m with
 | .fz (.bl true)=>Q (.fz (.bl true)) e1
 | .fz (.bl false)=>w e1 Q X
 | _=>False
def wandK (Q:M->En->Prop) (w:WE) (X:XQ) (m:M) (e1:En):Prop:=match m with
 | .fz (.bl true)=>w e1 Q X
 | .fz (.bl false)=>Q (.fz (.bl false)) e1
 | _=>False
def wifK (Q:M->En->Prop) (wa wb:WE) (X:XQ) (c:Bool) (e1:En):Prop:=if c=true then wa e1 Q X else wb e1 Q X
theorem ztW (q:wa e (λm e1=>wandK Q wb X m e1) X):wAnd wa wb e Q X:=q
theorem zvd (q:t e (λc e1=>wifK Q wa wb X c e1) X):wIf t wa wb e Q X:=q
theorem ztX (mk:α->M) (en:α->En) (h:((if x=true then a1 else a2).bind f).post P XP) (h1:(∀ v,(f v).post P XP->Q (mk v) (en v))->(a1.bind f).post P XP->w e1 Q X)
 (h2:(∀ v,(f v).post P XP->Q (mk v) (en v))->(a2.bind f).post P XP->Q (.fz (.bl false)) e1) (J:∀ v,(f v).post P XP->Q (mk v) (en v)):wandK Q w X (.fz (.bl x)) e1:=by
 cases x
 ·exact h2 J h
 ·exact h1 J h
theorem zve (mk:α->M) (en:α->En) (h:((if x=true then a1 else a2).bind f).post P XP) (h1:(∀ v,(f v).post P XP->Q (mk v) (en v))->(a1.bind f).post P XP->wa e1 Q X)
 (h2:(∀ v,(f v).post P XP->Q (mk v) (en v))->(a2.bind f).post P XP->wb e1 Q X) (J:∀ v,(f v).post P XP->Q (mk v) (en v)):wifK Q wa wb X x e1:=zsK h (h1 J) (h2 J)
def chK (Q:M->En->Prop) (q:Prop) (m:M) (e1:En):Prop:=match m with
 | .fz (.bl true)=>q
 | .fz (.bl false)=>Q (.fz (.bl false)) e1
 | _=>False
theorem zhs {op op':OP2} (q:oa e (λa e1=>ob e1 (λb e2=>zbB a e2 λma=>zbB b e2 λmb=>op ma mb λm=>chK Q (oc e2 (λc e3=>zbB b e3 λmb'=>zbB c e3 λmc=>op' mb' mc λm=>Q m e3) X) m e2) X) X):zeN op op' oa ob oc e Q X:=q
theorem zht {q:Prop} (mk:α->M) (en:α->En) (h:((if x=true then a1 else a2).bind f).post P XP) (h1:(∀ v,(f v).post P XP->Q (mk v) (en v))->(a1.bind f).post P XP->q)
 (h2:(∀ v,(f v).post P XP->Q (mk v) (en v))->(a2.bind f).post P XP->Q (.fz (.bl false)) e1) (J:∀ v,(f v).post P XP->Q (mk v) (en v)):chK Q q (.fz (.bl x)) e1:=by
 cases x
 ·exact h2 J h
 ·exact h1 J h
theorem zaI {fn:Fn} (q:r e (λas e1=>mvAs as e1 λms e2=>ms.length=fn.n/\fn.sp ms (λm ms'=>Q m (bkAs as ms' e2)) (λx=>X x e2)) X):za0 fn r e Q X:=q
theorem zbh {k:List M->En->Prop} (q:k [] e):mvAs [] e k:=q
theorem za7 {as:List Opd} {k:List M->En->Prop} (q:mvAs as e λms e'=>k (m::ms) e'):mvAs (.vl m::as) e k:=q
theorem zcE {as:List Opd} {k:List M->En->Prop} (h:e[i]?=some (some m)) (q:mvAs as (e.set i none) λms e'=>k (m::ms) e'):mvAs (.pk i::as) e k:=by
 unfold mvAs
 rw [h]
 exact q
theorem zaL {P':α->Prop} {X':Xn->Prop} {rr:R α} (h:(rr.bind f).post P XP) (q:∀ v,(f v).post P XP->P' v) (hx:∀ x,XP x->X' x):rr.post P' X':=by
 rw [zbe] at h
 exact zaG h q hx
theorem zaz (q:A { E with nx:=λe'=>B E e' } e):sSeq A B E e:=q
theorem zaT (q:w e (λm e1=>E.nx (e1.set i (some m))) E.ex):sSet i w E e:=q
theorem zqA (q:w e (λ_ e1=>E.nx e1) E.ex):zoN w E e:=q
theorem k_nx (q:E.nx e):sNx E e:=q
theorem za2 (q:w e (λm e1=>E.rt m e1) E.ex):sRet (oVal w) E e:=q
theorem zod (h:e[i]?=some (some m)) (q:E.rt m (e.set i none)):sRet (oPk i) E e:=by
 unfold sRet oPk
 try dsimp only
 rw [h]
 exact q
def sifK (A B:WS) (E:WEnds) (c:Bool) (e1:En):Prop:=if c=true then A E e1 else B E e1
theorem zdQ (q:t e (λc e1=>sifK A B E c e1) E.ex):sIf t A B E e:=q
theorem zeb {r1 r2:R β} (h:(if x=true then r1 else r2).post P XP) (h1:r1.post P XP->A E e1) (h2:r2.post P XP->B E e1):sifK A B E x e1:=by
 cases x
 ·exact h2 h
 ·exact h1 h
theorem ztY {ι:Type} (en:α->ι->En) (h:((if x=true then a1 else a2).bind f).post P XP) (h1:(∀ v j,(f v).post P XP->E.nx (en v j))->(a1.bind f).post P XP->A E e1)
 (h2:(∀ v j,(f v).post P XP->E.nx (en v j))->(a2.bind f).post P XP->B E e1) (J:∀ v j,(f v).post P XP->E.nx (en v j)):sifK A B E x e1:=zsK h (h1 J) (h2 J)
def asgK (t:Tg) (m:M) (e:En) (nx:En->Prop):Prop:=match t.asg m e with
 | some e2=>nx e2
 | none=>False
def zk0 (ts:List Tg) (ds:List D) (e:En) (nx:En->Prop):Prop:=match Tg.asgs ts ds e with
 | some e2=>nx e2
 | none=>False
theorem k_asg {g:Tg} (q:w e (λm e1=>asgK g m e1 E.nx) E.ex):sAsg g w E e:=q
variable {nx:En->Prop}
theorem g_nm (q:nx (e.set i (some m))):asgK (.nm i) m e nx:=q
theorem zvf (q:nx e):zk0 [] [] e nx:=q
theorem zi5 {g:Tg} {gs:List Tg} {ds:List D} (q:asgK g (.fz d) e λe1=>zk0 gs ds e1 nx):zk0 (g::gs) (d::ds) e nx:=by
 unfold zk0 Tg.asgs
 unfold asgK at q
 cases h:g.asg (.fz d) e with
 | none =>
   rw [h] at q
   exact q.elim
 | some e1 =>
   rw [h] at q
   exact q
theorem g_tup {gs:List Tg} {ds:List D} (h:m.d=.tup ds) (q:zk0 gs ds e nx):asgK (.tp gs) m e nx:=by
 unfold asgK Tg.asg
 rw [h]
 exact q
theorem g_un2 {gs:List Tg} {f:D×D->R β} (h:((nUn2 m.d).bind f).post P XP) (q:∀ a b,(f (a,b)).post P XP->zk0 gs [a,b] e nx):asgK (.tp gs) m e nx:=by
 unfold nUn2 at h
 split at h
 ·rename_i e1
  exact g_tup e1 (q _ _ h)
 ·exact h.elim
theorem g_un3 {gs:List Tg} {f:D×D×D->R β} (h:((nUn3 m.d).bind f).post P XP) (q:∀ a b c,(f (a,b,c)).post P XP->zk0 gs [a,b,c] e nx):asgK (.tp gs) m e nx:=by
 unfold nUn3 at h
 split at h
 ·rename_i e1
  exact g_tup e1 (q _ _ _ h)
 ·exact h.elim
theorem zsL {T:String} {op:OPM} (h:e[i]?=some (some m)) (hT:isTy T m=true) (q:r e (λas e1=>mutK T op i Q as e1) X):wMut T op i r e Q X:=e_Mut h hT q
theorem zsM {T:String} {op:OPM} {as:List Opd} (h:e[i]?=some (some m)) (hT:isTy T m=true) (q:zc3 as (e.set i none) λms=>op m ms λd m'=>Q (.fz d) (e.set i (some m'))):mutK T op i Q as e:=e_mutK h hT q
variable {opp:M->M->D->(M->Prop)->Prop}
def subJ (opp:M->M->D->(M->Prop)->Prop) (p:Nat) (nx:En->Prop) (m:M) (a:Opd) (e2:En):Prop:=match e2[p]? with
 | some (some mp)=>isPl mp=true/\zbB a (e2.set p none) λmi=>opp mp mi m.d λmp'=>nx (e2.set p (some mp'))
 | _=>False
def subK (opp:M->M->D->(M->Prop)->Prop) (p:Nat) (oi:WO) (nx:En->Prop) (X:XQ) (m:M) (e1:En):Prop:=match e1[p]? with
 | some (some _)=>oi e1 (λa e2=>subJ opp p nx m a e2) X
 | _=>False
theorem ztZ (q:w e (λm e1=>subK opp i o E.nx E.ex m e1) E.ex):sSub opp i o w E e:=q
theorem zt0 {m0:M} (h:e[i]?=some (some m0)) (q:o e (λa e2=>subJ opp i nx m a e2) X):subK opp i o nx X m e:=by
 unfold subK
 rw [h]
 exact q
theorem zt1 {mp:M} {ao:Opd} (h:e[i]?=some (some mp)) (hp:isPl mp=true) (q:zbB ao (e.set i none) λmi=>opp mp mi m.d λmp'=>nx (e.set i (some mp'))):subJ opp i nx m ao e:=by
 unfold subJ
 rw [h]
 exact ⟨hp,q⟩
theorem zdJ (q:w e (λm e1=>itK m QI e1) X):iSeq w e QI X:=q
theorem zk1 (q:o e (λa e1=>zbB a e1 λm=>zc4 m λj=>rngB j/\QI (rngD 0 j.toNat) e1) X):iR1 o e QI X:=q
theorem k_ir3 (q:oa e (λa e1=>ob e1 (λb e2=>oc e2 (λc e3=>zbB a e3 λm=>zbB b e3 λm'=>zbB c e3 λm''=>zc4 m λi=>zc4 m' λj=>zc4 m'' λc=>∃ n,RgC i j c n/\QI (rngC i c n) e3) X) X) X):iR3 oa ob oc e QI X:=q
theorem zk2 {wi:WI} {g:Tg} (q:wi e (λds e1=>zem g A E ds e1) E.ex):sFor wi g A E e:=q
variable {σ ι:Type} {g:Tg}
theorem zi6 (emb:σ->ι->En) {body:D->σ->(σ->R β)->R β} {after:σ->R β}
 (hb:∀ d s j (N:En->Prop) (K:σ->R β),(∀ s' j',(K s').post P XP->N (emb s' j'))->(body d s K).post P XP->asgK g (.fz d) (emb s j) λe1=>A { nx:=N,rt:=E.rt,bk:=E.nx,ct:=N,ex:=E.ex } e1)
 (ha:∀ s j,(after s).post P XP->E.nx (emb s j)):∀ (ds:List D) (s:σ) (j:ι),(forN body after ds s).post P XP->zem g A E ds (emb s j)
 | [],s,j,h=>ha s j h
 | d::ds,s,j,h=>hb d s j (zem g A E ds) (λs=>forN body after ds s) (λs' j' h=>zi6 emb hb ha ds s' j' h) h
theorem zt2 (emb:σ->ι->En) {body:D->σ->R σ} {S:σ->Prop}
 (hb:∀ d s j (N:En->Prop) (S:σ->Prop),(∀ s' j',S s'->N (emb s' j'))->(body d s).post S XP->asgK g (.fz d) (emb s j) λe1=>A { nx:=N,rt:=E.rt,bk:=E.nx,ct:=N,ex:=E.ex } e1)
 (ha:∀ s j,S s->E.nx (emb s j)):∀ (ds:List D) (s:σ) (j:ι),(forS body ds s).post S XP->zem g A E ds (emb s j)
 | [],s,j,h=>ha s j h
 | d::ds,s,j,h=>hb d s j (zem g A E ds) (λs=>(forS body ds s).post S XP) (λs' j' h=>zt2 emb hb ha ds s' j' h) (by
   unfold forS at h
   rw [zbe] at h
   exact h)
theorem zk3 {f:σ->R β} (emb:σ->ι->En) {body:D->σ->R σ}
 (hb:∀ d s j (N:En->Prop) (S:σ->Prop),(∀ s' j',S s'->N (emb s' j'))->(body d s).post S XP->asgK g (.fz d) (emb s j) λe1=>A { nx:=N,rt:=E.rt,bk:=E.nx,ct:=N,ex:=E.ex } e1)
 (ha:∀ s j,(f s).post P XP->E.nx (emb s j)) (ds:List D) (s:σ) (j:ι) (h:((forS body ds s).bind f).post P XP):zem g A E ds (emb s j):=by
 rw [zbe] at h
 exact zt2 emb hb ha ds s j h
def whlK (A:WS) (E:WEnds) (N:En->Prop) (c:Bool) (e1:En):Prop:=if c=true then A { nx:=N,rt:=E.rt,bk:=E.nx,ct:=N,ex:=E.ex } e1 else E.nx e1
theorem zsN (emb:σ->ι->En) {body:σ->(σ->R β)->(σ->R β)->R β} {after:σ->R β}
 (hb:∀ s j (N:En->Prop) (K:σ->R β),(∀ s' j',(K s').post P XP->N (emb s' j'))->(body s K after).post P XP->t (emb s j) (λc e1=>whlK A E N c e1) E.ex)
 (n:Nat) (s:σ) (j:ι) (h:(whileN body after n s).post P XP):zlJ t A E (emb s j):=by
 refine ⟨λn e=>∃ s j,e=emb s j/\(whileN body after n s).post P XP,⟨n,s,j,rfl,h⟩,?_⟩
 rintro m _ ⟨s,j,rfl,h⟩
 cases m with
 | zero=>exact h.elim
 | succ m=>exact hb s j _ (λs=>whileN body after m s) (λs' j' h=>⟨m,Nat.lt_succ_self m,s',j',rfl,h⟩) h
def lcK (g:Tg) (tt:WT) (te:WE) (own:List Nat) (Q:M->En->Prop) (ds:List D) (e1:En):Prop:=ds.length<=sizeLine/\lcGo g tt te own ds [] (zaO e1 own) λacc e2=>Q (.lst acc) (za1 e1 own e2)
theorem k_lc {wi:WI} {g:Tg} {tt:WT} {te:WE} {own:List Nat} (q:wi e (λds e1=>lcK g tt te own Q ds e1) X):wLc wi g tt te own e Q X:=q
variable {te:WE} {tt:WT} {own:List Nat} {kk:List D->En->Prop}
theorem zi7 {rr:R α} {S:α->Prop} (h:rr.calm.post S XP):rr.post S λ_=>False:=by
 cases rr with
 | ok a=>exact h
 | _=>exact h.elim
theorem zt3 {ff:D->R D} {e0:En} (hb:∀ d (S:D->Prop) (KK:M->En->Prop),(∀ m e3,zaO e3 own=e0->S m.d->KK m e3)->(ff d).post S (λ_=>False)->asgK g (.fz d) e0 λe1=>te e1 KK noX) :
 ∀ (ds acc:List D),(lcM' ff ds).post (λxs=>kk (acc++xs) e0) XP->lcGo g zdp te own ds acc e0 kk
 | [],acc,h=>by
   have h:kk (acc++[]) e0:=h
   rw [yaE] at h
   exact h
 | d::ds,acc,h=>by
   unfold lcM' at h
   rw [zbe] at h
   have z:=hb d _ (λm e3=>lcGo g zdp te own ds (acc++[m.d]) (zaO e3 own) kk) (λm e3 hw h => ?_) (zi7 h)
   ·unfold asgK at z
    unfold lcGo
    split at z
    ·rename_i e1
     try rw [e1]
     exact z
    ·exact z.elim
   ·rw [hw]
    rw [zbe] at h
    refine zt3 hb ds _ (zaG h (λxs h => ?_) λ_ z=>z)
    rw [yah]
    exact h
theorem zi8 {ff:D->R D} {ds:List D} {f:List D->R β} (h:((lcM ff ds).bind f).post P XP) (hb:∀ d (S:D->Prop) (KK:M->En->Prop),(∀ m e3,zaO e3 own=zaO e own->S m.d->KK m e3)->(ff d).post S (λ_=>False)->asgK g (.fz d) (zaO e own) λe1=>te e1 KK noX)
 (q:∀ xs,(f xs).post P XP->Q (.lst xs) (za1 e own (zaO e own))):lcK g zdp te own Q ds e:=by
 obtain ⟨c,h⟩:=zbx h
 rw [zbe] at h
 exact ⟨yaD c,zt3 hb ds [] (zaG h (λxs h=>q xs h) λ_ z=>z)⟩
theorem zqB {ff:D->R (Option D)} {e0:En} (hb:∀ d (S:Option D->Prop) (KK:M->En->Prop) (K0:En->Prop),(∀ m e3,zaO e3 own=e0->S (some m.d)->KK m e3)->(∀ e3,zaO e3 own=e0->S none->K0 e3)->(ff d).post S (λ_=>False)->asgK g (.fz d) e0 λe1=>tt e1 (λb e2=>if b=true then te e2 KK noX else K0 e2) noX) :
 ∀ (ds acc:List D),(lcF' ff ds).post (λxs=>kk (acc++xs) e0) XP->lcGo g tt te own ds acc e0 kk
 | [],acc,h=>by
   have h:kk (acc++[]) e0:=h
   rw [yaE] at h
   exact h
 | d::ds,acc,h=>by
   unfold lcF' at h
   rw [zbe] at h
   have z:=hb d _ (λm e3=>lcGo g tt te own ds (acc++[m.d]) (zaO e3 own) kk) (λe3=>lcGo g tt te own ds acc (zaO e3 own) kk) (λm e3 hw h => ?_) (λe3 hw h => ?_) (zi7 h)
   ·unfold asgK at z
    unfold lcGo
    split at z
    ·rename_i e1
     try rw [e1]
     exact z
    ·exact z.elim
   ·rw [hw]
    rw [zbe] at h
    refine zqB hb ds _ (zaG h (λxs h => ?_) λ_ z=>z)
    rw [yah]
    exact h
   ·rw [hw]
    rw [zbe] at h
    exact zqB hb ds _ (zaG h (λxs h=>h) λ_ z=>z)
theorem zvg {ff:D->R (Option D)} {ds:List D} {f:List D->R β} (h:((lcF ff ds).bind f).post P XP) (hb:∀ d (S:Option D->Prop) (KK:M->En->Prop) (K0:En->Prop),(∀ m e3,zaO e3 own=zaO e own->S (some m.d)->KK m e3)->(∀ e3,zaO e3 own=zaO e own->S none->K0 e3)->(ff d).post S (λ_=>False)->asgK g (.fz d) (zaO e own) λe1=>tt e1 (λb e2=>if b=true then te e2 KK noX else K0 e2) noX)
 (q:∀ xs,(f xs).post P XP->Q (.lst xs) (za1 e own (zaO e own))):lcK g tt te own Q ds e:=by
 obtain ⟨c,h⟩:=zbx h
 rw [zbe] at h
 exact ⟨yaD c,zqB hb ds [] (zaG h (λxs h=>q xs h) λ_ z=>z)⟩
def lciK (te:WE) (KK:M->En->Prop) (K0:En->Prop) (c:Bool) (e2:En):Prop:=if c=true then te e2 KK noX else K0 e2
theorem zvh {KK:M->En->Prop} {K0:En->Prop} (q:tt e (λc e2=>lciK te KK K0 c e2) noX):tt e (λb e2=>if b=true then te e2 KK noX else K0 e2) noX:=q
theorem zvi {KK:M->En->Prop} {K0:En->Prop} {r1 r2:R β} (h:(if x=true then r1 else r2).post P XP) (h1:r1.post P XP->te e1 KK noX) (h2:r2.post P XP->K0 e1):lciK te KK K0 x e1:=by
 cases x
 ·exact h2 h
 ·exact h1 h
theorem zt4 {ff:D->σ->R (D×σ)} {emb:σ->En} (hb:∀ d s (S:D×σ->Prop) (KK:M->En->Prop),(∀ m e3 s',zaO e3 own=emb s'->S (m.d,s')->KK m e3)->(ff d s).post S (λ_=>False)->asgK g (.fz d) (emb s) λe1=>te e1 KK noX) :
 ∀ (ds acc:List D) (s:σ),(lcS' ff ds s).post (λp=>kk (acc++p.1) (emb p.2)) XP->lcGo g zdp te own ds acc (emb s) kk
 | [],acc,s,h=>by
   have h:kk (acc++[]) (emb s):=h
   rw [yaE] at h
   exact h
 | d::ds,acc,s,h=>by
   unfold lcS' at h
   rw [zbe] at h
   have z:=hb d s _ (λm e3=>lcGo g zdp te own ds (acc++[m.d]) (zaO e3 own) kk) (λm e3 s' hw h => ?_) (zi7 h)
   ·unfold asgK at z
    unfold lcGo
    split at z
    ·rename_i e1
     try rw [e1]
     exact z
    ·exact z.elim
   ·rw [hw]
    rw [zbe] at h
    refine zt4 hb ds _ s' (zaG h (λxs h => ?_) λ_ z=>z)
    rw [yah]
    exact h
theorem j_lcS {ff:D->σ->R (D×σ)} {ds:List D} {f:List D×σ->R β} (emb:σ->En) (s:σ) (hs:zaO e own=emb s) (h:((lcS ff ds s).bind f).post P XP) (hb:∀ d s (S:D×σ->Prop) (KK:M->En->Prop),(∀ m e3 s',zaO e3 own=emb s'->S (m.d,s')->KK m e3)->(ff d s).post S (λ_=>False)->asgK g (.fz d) (emb s) λe1=>te e1 KK noX)
 (q:∀ xs s',(f (xs,s')).post P XP->Q (.lst xs) (za1 e own (emb s'))):lcK g zdp te own Q ds e:=by
 obtain ⟨c,h⟩:=zbx h
 rw [zbe] at h
 unfold lcK
 rw [hs]
 exact ⟨yaD c,zt4 hb ds [] s (zaG h (λp h=>q p.1 p.2 h) λ_ z=>z)⟩
end
namespace R
end R
section
variable {β:Type} {P:β->Prop} {XP:Xn->Prop} {f:Bool->R β} {d:D} {Q:M->En->Prop} {w:WE} {X:XQ} {e1:En} {QT:Bool->En->Prop} {q:Prop}
theorem zec {b:Bool} (q:QT b e1):truK (.fz (.bl b)) QT e1:=q
end
theorem zcF {N n:Nat} {kp:List Nat} {w:WS} {ms:List M} {Q:M->En->Prop} {X:Xn->Prop} {e0:En} (he:ms.map some++List.replicate (N-n) none=e0)
 (q:∀ E:WEnds,(∀ m e',Q m (giv kp n e')->E.rt m e')->(∀ e',Q (.fz .non) (giv kp n e')->E.nx e')->(∀ x e',X x->E.ex x e')->w E e0):wFn N n kp w ms Q X:=by
 subst he
 exact q _ (λ_ _ h=>h) (λ_ h=>h) (λ_ _ h=>h)
section
variable {β:Type} {P:β->Prop} {XP:Xn->Prop} {kk:D->M->Prop} {ma:M}
theorem tl {α:Type} {P:α->Prop} {r:R α} (h:r.post P XP):(r.bind R.ok).post P XP:=by cases r<;>exact h
theorem k_popP {ds:List D} {f:D×List D->R β} (h:((nPop ds ma.d).bind f).post P XP) (q:∀ p,(f p).post P XP->kk p.1 (.lst p.2)):zlQ (.lst ds) [ma] kk:=k_pop h λv w h=>q (v,w) h
variable {e e1:En} {Q:M->En->Prop} {E:WEnds} {t:WT} {A B:WS} {x:Bool} {nx:En->Prop} {m:M}
theorem zt5 {gs:List Tg} {f:D×D->R β} (h:((nUn2 m.d).bind f).post P XP) (q:∀ p,(f p).post P XP->zk0 gs [p.1,p.2] e nx):asgK (.tp gs) m e nx:=g_un2 h λa b h=>q (a,b) h
theorem g_un3P {gs:List Tg} {f:D×D×D->R β} (h:((nUn3 m.d).bind f).post P XP) (q:∀ p,(f p).post P XP->zk0 gs [p.1,p.2.1,p.2.2] e nx):asgK (.tp gs) m e nx:=g_un3 h λa b c h=>q (a,b,c) h
theorem j_whl {r1 r2:R β} {N:En->Prop} (h:(if x=true then r1 else r2).post P XP) (h1:r1.post P XP->A { nx:=N,rt:=E.rt,bk:=E.nx,ct:=N,ex:=E.ex } e1) (h2:r2.post P XP->E.nx e1):whlK A E N x e1:=by
 cases x
 ·exact h2 h
 ·exact h1 h
theorem zsO {σ ι:Type} (emb:σ->ι->En) {body:σ->(σ->R β)->(σ->R β)->R β} {after:σ->R β} (ha:∀ s j,(after s).post P XP->E.nx (emb s j))
 (hb:(∀ s j,(after s).post P XP->E.nx (emb s j))->∀ s j (N:En->Prop) (K:σ->R β),(∀ s' j',(K s').post P XP->N (emb s' j'))->(body s K after).post P XP->t (emb s j) (λc e1=>whlK A E N c e1) E.ex)
 (n:Nat) (s:σ) (j:ι) (h:(whileN body after n s).post P XP):zlJ t A E (emb s j):=zsN emb (hb ha) n s j h
variable {te:WE} {own:List Nat} {g:Tg}
theorem zt6 {σ:Type} {ff:D->σ->R (D×σ)} {ds:List D} {f:List D×σ->R β} (emb:σ->En) (s:σ) (hs:zaO e own=emb s) (h:((lcS ff ds s).bind f).post P XP) (hb:∀ d s (S:D×σ->Prop) (KK:M->En->Prop),(∀ m e3 s',zaO e3 own=emb s'->S (m.d,s')->KK m e3)->(ff d s).post S (λ_=>False)->asgK g (.fz d) (emb s) λe1=>te e1 KK noX)
 (q:∀ p,(f p).post P XP->Q (.lst p.1) (za1 e own (emb p.2))):lcK g zdp te own Q ds e:=j_lcS emb s hs h hb λxs s' h=>q (xs,s') h
end
instance (i j:Int):Decidable (CMulW i j):=inferInstanceAs (Decidable (_<_))
instance (i j:Int):Decidable (CDivW i j):=inferInstanceAs (Decidable (_/\_))
def zqC:OP2:=opII CDivW λi j=>.int (i / j)
theorem zsP {K:PySem.W.Frag}:Snd2 K (rI CDivW λi j=>.int (i / j)) zqC:=znZ λ_ _=>rfl
def zvj:D->D->R D:=nII CDivW λi j=>.int (i / j)
section
variable {β:Type} {P:β->Prop} {XP:Xn->Prop} {ma mb:M} {k:M->Prop}
theorem k_divW {f:D->R β} (h:((zvj ma.d mb.d).bind f).post P XP) (q:∀ v,(f v).post P XP->k (.fz v)):zqC ma mb k:=k_II h q
end
section
variable {P:Program} {w:World} {K:PySem.W.Frag} {mg:Str->Option Value} {base:Heap} {xr:Xn->Value->Option Addr->Hp->Prop}
theorem zeo {x:Str} {st:Stmt} {f:Addr} {fd:FuncData} (F:FunD K x x (defArgs st) (defBody st) (defScope st) [] [] f fd):Fun K x x st f fd:=by
 obtain ⟨oc,od,dV,kV,doc,pm,an,cdv,ct,osl,rfl,lk,hcd,hD,hK⟩:=F.ex
 rcases hD with ⟨_,rfl⟩ | ⟨e,_⟩
 ·exact ⟨⟨oc,od,kV,doc,pm,an,cdv,ct,osl,rfl,lk,hcd⟩,F.kp⟩
 ·exact absurd rfl e
theorem Cal.up {k k':Nat} {x:Str} {fn:Fn} (h:Cal P w K mg base xr k x fn) (hk:k<=k'):Cal P w K mg base xr k' x fn:=by
 obtain ⟨hf,f,fd,ps,F,hm,hkp,hb⟩:=h
 exact ⟨hf,f,fd,ps,F.mono hk,hm,hkp,hb⟩
theorem zm9 {x:Str} {i:Int} (h:∃ t,mg x=some (.int i t)):Cst mg x (.int i):=h.elim λt h=>.int h
theorem zvk {x:Str} {i:Str} (h:∃ t,mg x=some (.str i t)):Cst mg x (.str i):=h.elim λt h=>.str h
theorem zvl {x:Str} {st:Stmt} {f:Addr} {fd:FuncData} {N ps:List Str} {k:Nat} {kp:List Nat} {wb:WS} {sp:List M->(M->En->Prop)->(Xn->Prop)->Prop}
 (F:Fun K x x st f fd) (S:FnScope N ps (defScope st))
 (hb2:∀ cdv A outer s H E vs,vs.length=ps.length->Room k (A.deeper (envOfC x (defScope st) s.heap.objs.size f cdv))->SSs (yOf P w K mg base xr N x (defScope st) f cdv A outer s H E) (zcB kp vs) (defBody st) wb)
 (h:∀ ms Q X,ms.length=ps.length->sp ms Q X->wFn N.length ps.length kp wb ms Q X):FnOk P w K mg base (L2.CX P w) (k+1) f fd ps (spOf K xr ⟨ps.length,kp,sp⟩) :=
 (fn_ok F S hb2).imp λvs H Q E q=>by
  obtain ⟨hl,ms,R,hm,sp,q⟩:=q
  exact ⟨hl,ms,R,hm,sp,h _ _ _ (hm.trans hl) q⟩
theorem law_sp {sp:List M->(M->En->Prop)->(Xn->Prop)->Prop} (hsp:∀ ns:List Int,ns.length<=63->∀ (Q:M->En->Prop) X,Q (.fz (.bl true)) [none]->sp [.fz (.scr ns)] Q X)
 (H:Hp) (a:Addr) (ns:List Int) (hl:ns.length<=63) (hS:SqL K H a (ns.map V.int)):spOf K xr ⟨1,[],sp⟩ [.ref a] H (λv _=>v=.bl true) λ_ _ _=>False:=by
 refine ⟨rfl,[.fz (.scr ns)],[],rfl,?_,hsp ns hl _ _ λv H' hs => ?_⟩
 ·refine ⟨[],ybr,?_⟩
  have e:hid H []=H:=by
   funext b
   exact yaH yaF
  rw [e]
  exact .cons (F1:=[]) (F2:=[]) (.fz (.scr hS)) .nil
 ·obtain ⟨F,_,h⟩:=hs
  cases h with
  | cons w r =>
    cases w with
    | fz w =>
      cases w
      rfl
end
theorem walk_ofW {l:PySem.W.OpenLaw} {n k:Nat} {q:Program} {loose:List Str} {XP:(Str->Option Value)->Heap->Prop} {YP:World->Heap->Prop} {d:DefRec} {x:Str}
 (hn:l.most=some n) (hn2:n<=sizeLine) (hdf:d.params.defaults=[]) (hr:Room k callerA)
 (F:∀ (w:World) (mg:Str->Option Value) (fa:Addr) (h:Heap),YP w h->h.Ns mainGlobals mg->mg d.name=some (.ref fa) ->
  ∃ (K:PySem.W.Frag) (fd:FuncData) (sp:Sp),K.In h∧(∀ (s:Shared) (u:Value),BindsTo s fd ⟨[u],[]⟩ [(x,u)]) ∧
    (∀ (H:Hp) (a:Addr) (ns:List Int),ns.length<=n->Only H->SqL K H a (ns.map V.int)->sp [.ref a] H (λv _=>v=.bl true) λ_ _ _=>False) /\
    ∀ base:Heap,K.In base->base.Ns mainGlobals mg->FnOk l.prog w K mg base (L2.CX l.prog w) k fa fd [x] sp) :
 PySem.W.WalkO q loose XP YP l.row.toRowW d [] (λf vs=>PySem.call f vs):=by
 refine Att.attach_call hn hdf λw s₀ s₁ mg mb fa o pm cd doc a vs ns G Y ho hd hcd hmg hobj hints hlen hg => ?_
 obtain ⟨K,fd,sp,KX,hb,hsp,hF⟩:=F w mg fa _ Y G.T.g hmg
 refine law_call KX G.T.g G.T.b G.T.builtins G.T.nolimit hg hobj hints (ya5 hlen hn2) hr hF hb (λH hO hS=>hsp H a ns hlen hO hS) λH e s' h => ?_
 obtain ⟨_,_,_,_,_,_,_,_,_,_,_,_,h⟩:=h
 exact h
end VW
namespace VW
open PySem PySem.Spec PyProof.Rows L2
theorem Sep.fresh {K:PySem.W.Frag} {H:Hp} {L:List (V×M)} {p:Addr} {o:HO} (h:Sep K H L) (n:H p=none):Sep K (upd H p o) L:=by
 obtain ⟨F,nd,q⟩:=h
 refine ⟨F,nd,q.fresh n (.of λa u e => ?_)⟩
 by_cases z:a∈F
 ·rw [zgN z] at e
  cases e
 ·rw [zep z] at e ⊢
  rw [upd_ne (ne_of_none e n)]
  exact e
theorem zoe {K:PySem.W.Frag} {H:Hp} {T:Addr} {x y:V} {d e:D} {L:List (V×M)} (n:H T=none) (h:Sep K H ((x,.fz d)::(y,.fz e)::L)):Gvn K true (upd H T (.tup [x,y])) (.ref T) (.tup [d,e]) L :=
 .inr ⟨rfl,T,[x,y],[d,e],rfl,rfl,.inl (.inl upd_same),rfl,h.fresh n⟩
def seqD:D->Option (List D)
 | .tup ds=>some ds
 | .lst ds=>some ds
 | _=>none
def enD (ds:List D):List D:=ds.mapIdx λi d=>.tup [.int (i:Nat),d]
def Iet (K:PySem.W.Frag) (a:Addr) (n:Nat):It where
 go:=λi H=>∃ (l:List V) (x:V),SqT K H a l/\l.length=n/\l[i]?=some x
 yld:=λi H v H2=>∃ T x,v=.ref T/\H T=none/\H2=upd H T (.tup [.int (i:Nat),x])/\∀ l,SqT K H a l->l[i]?=some x
 stop:=λi H=>∃ l:List V,SqT K H a l/\l.length=n/\n<=i
theorem sep_at {K:PySem.W.Frag} {H:Hp} {i:Nat} {a:Addr} {ds:List D} {d:D} {L:List (V×M)} (h:Sep K H ((.ref a,.fz (.tup ds))::L)) (e:ds[i]?=some d) :
 (∃ l x,SqT K H a l/\l.length=ds.length/\l[i]?=some x)/\∀ x,(∀ l,SqT K H a l->l[i]?=some x)->Sep K H ((x,.fz d)::(.ref a,.fz (.tup ds))::L):=by
 obtain ⟨G,ex,r,_⟩:=zer h
 cases r with
 | tup hs rs =>
   obtain ⟨v,hv,_⟩:=rs.at e
   refine ⟨⟨_,v,(hs.mono ex).sqT,rs.length,hv⟩,λx hx=>ziz h λG' ex' r' => ?_⟩
   cases r' with
   | tup hs' rs' =>
     obtain ⟨v',hv',rv'⟩:=rs'.at e
     have z:=hx _ (hs'.mono ex').sqT
     rw [hv'] at z
     cases z
     exact rv'
theorem zvm {K:PySem.W.Frag} {H:Hp} {i:Nat} {a:Addr} {ds:List D} {d:D} {L:List (V×M)} (h:Sep K H ((.ref a,.fz (.lst ds))::L)) (e:ds[i]?=some d) :
 (∃ l x,SqL K H a l/\l[i]?=some x)/\∀ x,(∀ l,SqL K H a l->l[i]?=some x)->Sep K H ((x,.fz d)::(.ref a,.fz (.lst ds))::L):=by
 obtain ⟨G,ex,r,_⟩:=zer h
 cases r with
 | lst hs rs =>
   obtain ⟨v,hv,_⟩:=rs.at e
   refine ⟨⟨_,v,SqL.of (ex.keep hs),hv⟩,λx hx=>ziz h λG' ex' r' => ?_⟩
   cases r' with
   | lst hs' rs' =>
     obtain ⟨v',hv',rv'⟩:=rs'.at e
     have z:=hx _ (SqL.of (ex'.keep hs'))
     rw [hv'] at z
     cases z
     exact rv'
theorem zt7 {ds:List D} {i:Nat} {d:D} (e:(enD ds)[i]?=some d):∃ x,ds[i]?=some x/\d=.tup [.int (i:Nat),x]:=by
 unfold enD at e
 rw [List.getElem?_mapIdx] at e
 cases q:ds[i]? with
 | none=>rw [q] at e; cases e
 | some x =>
   rw [q] at e
   cases e
   exact ⟨x,rfl,rfl⟩
theorem zkj {ds:List D}:(enD ds).length=ds.length:=List.length_mapIdx
theorem zqD {K:PySem.W.Frag} {a:Addr} {ds:List D}:Walks K true (Iet K a ds.length) (enD ds) [(.ref a,.fz (.tup ds))] where
 go:=λi H L d h e=>by
  have h:Sep K H ((.ref a,.fz (.tup ds))::L):=h
  obtain ⟨u,hu,rfl⟩:=zt7 e
  obtain ⟨g1,g2⟩:=sep_at h hu
  refine ⟨g1,λv H2 yl => ?_⟩
  obtain ⟨T,x,rfl,hn,rfl,hx⟩:=yl
  exact zoe hn (ziT (g2 x hx) λ_=>.int _)
 stop:=λi H L h hl=>by
  have h:Sep K H ((.ref a,.fz (.tup ds))::L):=h
  rw [zkj] at hl
  obtain ⟨G,ex,r,_⟩:=zer h
  cases r with
  | tup hs rs=>exact ⟨_,(hs.mono ex).sqT,rs.length,hl⟩
theorem zqE {K:PySem.W.Frag} {a:Addr} {ds:List D}:Walks K true (Ite K a) (enD ds) [(.ref a,.fz (.lst ds))] where
 go:=λi H L d h e=>by
  have h:Sep K H ((.ref a,.fz (.lst ds))::L):=h
  obtain ⟨u,hu,rfl⟩:=zt7 e
  obtain ⟨g1,g2⟩:=zvm h hu
  refine ⟨g1,λv H2 yl => ?_⟩
  obtain ⟨T,x,rfl,hn,rfl,hx⟩:=yl
  exact zoe hn (ziT (g2 x hx) λ_=>.int _)
 stop:=λi H L h hl=>by
  have h:Sep K H ((.ref a,.fz (.lst ds))::L):=h
  rw [zkj] at hl
  obtain ⟨G,ex,r,_⟩:=zer h
  cases r with
  | lst hs rs=>exact ⟨_,SqL.of (ex.keep hs),by rw [rs.length]; exact hl⟩
theorem zsQ {P:Program} {w:World} {K:PySem.W.Frag} {elts:List Expr} {kk:Nat} {tpos:Pos} (a e it:Addr) (n0:Nat) :
 Turn P w K (.Tuple elts kk tpos) (Iet K a n0) [e,it] e (λi h=>(∃ old,IsEnum h e it ((i:Nat):Int) old)/\h.IsTupleIter it a i/\e≠it/\a≠it/\a≠e/\i<=n0) where
 mem:=yaa
 obj:=λi h t b hb=>by
  obtain ⟨⟨old,h1⟩,⟨o,h2,_,h3⟩,_⟩:=t
  rcases yao.mp hb with z | z
  ·subst z
   exact ⟨_,h1,λv q=>nomatch q⟩
  ·cases yar.mp z
   exact ⟨o,h2,λv q=>by rw [h3] at q; cases q⟩
 keep:=λi h h' t k=>by
  obtain ⟨⟨old,h1⟩,h2,n⟩:=t
  exact ⟨⟨old,k e yaa _ h1⟩,h2.at λo q=>k it (yab _ yaa) o q,n⟩
 item:=by
  intro X hP hw hK hc i pins s σ H E I hf t g
  subst hP hw hK
  obtain ⟨⟨old,h1⟩,h2,n,n2,n3,n4⟩:=t
  obtain ⟨l,x,q,ln,hx⟩:=g
  obtain ⟨its,rv,p,_⟩:=I.tuple q
  obtain ⟨u,hu,ru⟩:=rv.get hx
  have le:e<s.heap.objs.size:=Heap.lt_size h1
  have li:it<s.heap.objs.size:=by
   obtain ⟨_,z,_⟩:=h2
   exact Heap.lt_size z
  have tp:s.heap.IsTuple a its.toArray:=p
  have hlt:i<its.toArray.size:=by
   have:=(yaf.mp hu).1
   simpa using this
  refine wpAny_pyNext_enum_itemD (Draws.tuple (A:=X.A.in1) (show X.A.in1.handled=none from I.ok.hd hc) it a n2 its.toArray) h1 ⟨h2,tp⟩ hlt n (λz => ?_) λv h' tk hv ho ht hT hsz hk => ?_
  ·rcases yao.mp z with z | z
   ·exact n z
   ·exact n3 (yar.mp z).symm
  have ev:v=u:=by
   have hv':its.toArray[i]?=some v:=hv
   rw [List.getElem?_toArray,hu] at hv'
   exact (yaQ hv').symm
  subst ev
  refine ⟨_,rfl,wpAny_letOwnedTupleGo_enum (s:={ s with heap:=h',toks:=tk+1 }) ho λh2' he' sb => ?_⟩
  have hT2:h2'.get? s.heap.objs.size=some { cls:=.type "tuple",data:=.seq #[.int i tk,v] }:=(sb.2 _ (Nat.ne_of_gt le)).trans hT
  have ok:ObjOk X.prog X.w (upd H s.heap.objs.size (.tup [.int (i:Nat),x])) h2' s.heap.objs.size (.tup [.int (i:Nat),x]):=by
   refine ⟨?_,[.int i tk,v],.cons ⟨_,rfl⟩ (.cons ru .nil),_,hT2,rfl,_,rfl⟩
   show 2<=sizeLine
   decide
  have kk2:∀ b o,b∉[e,it]->s.heap.get? b=some o->h2'.get? b=some o:=λb o hb z=>by
   have b1:b≠e:=λy=>hb (by rw [y]; exact yaa)
   have b2:b≠it:=λy=>hb (by rw [y]; exact yab _ yaa)
   exact (sb.2 b b1).trans (hk b o b1 b2 z)
  have I1:=I.turnedNew (t':=tk+1) kk2 hf (yaw _) ok
  refine ⟨.ref s.heap.objs.size,_,I1,rfl,⟨_,x,rfl,I.hok.fresh (yaw _),rfl,λl' hy => ?_⟩,⟨⟨v,?_⟩,?_,n,n2,n3,?_⟩,λb hb => ?_⟩
  ·rw [I.tuple_inj hy q]
   exact hx
  ·rw [show ((i+1:Nat):Int)=(i:Int)+1 by omega]
   exact he'
  ·exact ht.1.at λo z=>(sb.2 it (ycB n)).trans z
  ·have:=(yaf.mp hx).1
   omega
  ·have lb:b<s.heap.objs.size:=by
    rcases yao.mp hb with z | z
    ·rw [z]
     exact le
    ·rw [yar.mp z]
     exact li
   rw [upd_ne (yb6 lb)]
   exact (hf b hb).1
 done:=by
  intro X hP hw hK hc i pins s σ H E I hf t g
  subst hP hw hK
  obtain ⟨⟨old,h1⟩,h2,n,n2,n3,n4⟩:=t
  obtain ⟨l,q,ln,hl⟩:=g
  obtain ⟨its,rv,p,_⟩:=I.tuple q
  obtain ⟨f0,f1,f2,f3,f4,f5⟩:=hf it (yab _ yaa)
  have len:=rv.length
  have tp:s.heap.IsTuple a its.toArray:=p
  have sz:i=its.toArray.size:=by
   rw [ybt]
   omega
  exact wpAny_pyNext_enum_endD (Draws.tuple (A:=X.A.in1) (show X.A.in1.handled=none from I.ok.hd hc) it a n2 its.toArray) h1 ⟨sz▸h2,tp⟩ λh' eb=>⟨rfl,I.turned (t':=s.toks) (λb o hb z=>eb b o hb z) f0 f1 f3 f4 f5⟩
 self:=λA i s Q E t h=>by
  obtain ⟨⟨_,h1⟩,_⟩:=t
  exact wpAny_pyIter_enum h1 h
theorem zsR {v:Value} {o:Obj} {J:Heap->Prop} (B:Begins v o J) :
 Meets (Builtin.«enumerate.__new__» ⟨[.type "enumerate",v],[]⟩) (λ_ R s=>J s.heap /\
  R (.ok (.ret (.ref (s.heap.push o).objs.size))) { s with heap:=(s.heap.push o).push { cls:=.type "enumerate",data:=.fields #[.none,.bool false,.ref s.heap.objs.size,rawInt 0,.none,.none] } }) :=
 .of_wp λprog w A R s ⟨hj,hr⟩=>by
  obtain ⟨hp,g,d,tk,os⟩:=s
  have sub:=sub_enumerate
  have q1:∀ {A':Around} {E:Value->Shared->Prop} {Q:Value->Shared->Prop},Q (.ref hp.objs.size) ⟨hp.push o,g,d,tk,os⟩->wpAny (model prog w) A' (pyIter v) Q E ⟨hp,g,d,tk,os⟩:=by
   intro A' E Q z
   exact B.iter prog w _ _ ⟨hp,g,d,tk,os⟩ _ hj z
  wp_walk using q1
  refine wpAny_stack_any λst=>wpAny_pure ?_
  split
  ·rename_i c _ _ _ _ _
   cases c==Value.type "enumerate" <;>
    (wp_walk using q1
     exact ⟨_,rfl,hr⟩)
  ·wp_walk using q1
   exact ⟨_,rfl,hr⟩
theorem zvn {prog:Program} {w:World} {A:Around} {E:Value->Shared->Prop} {s:Shared} {v:Value} {o:Obj} {J:Heap->Prop} {Q:Value->Shared->Prop} (B:Begins v o J) (hj:J s.heap)
 (h:∀ h',IsEnum h' (s.heap.objs.size+1) s.heap.objs.size 0 .none->h'.get? s.heap.objs.size=some o->(∀ b u,s.heap.get? b=some u->h'.get? b=some u)->Q (.ref (s.heap.objs.size+1)) { s with heap:=h' }) :
 wpAny (model prog w) A (call (.type "enumerate") [v]) Q E s:=by
 refine callType_new F.called_enumerate (by decide) (F.typeCall_enumerate_1 _) (F.newCall_enumerate_1 _) (λobj=>F.args_object_init_2 obj _) F.entry_enumerate_new (zsR B) ⟨hj,?_⟩
 have sz:(s.heap.push o).objs.size=s.heap.objs.size+1:=Heap.size_push ..
 show _/\_
 rw [sz]
 have he:IsEnum ((s.heap.push o).push { cls:=.type "enumerate",data:=.fields #[.none,.bool false,.ref s.heap.objs.size,rawInt 0,.none,.none] }) (s.heap.objs.size+1) s.heap.objs.size 0 .none:=by
  have z:=Heap.get?_push_size (s.heap.push o) (o:={ cls:=.type "enumerate",data:=.fields #[.none,.bool false,.ref s.heap.objs.size,rawInt 0,.none,.none] }) rfl
  rwa [sz] at z
 exact ⟨⟨_,he,rfl⟩,h _ he (Heap.get?_push_of_some _ (Heap.get?_push_size _ B.free)) λb u z=>Heap.get?_push_of_some _ (Heap.get?_push_of_some _ z)⟩
section
variable {y:Y} {a:Expr} {w:WE} {p pos tpos:Pos} {elts:List Expr} {kk:Nat}
def iEn (w:WE):WI:=λe Q X=>w e (λm e1=>match seqD m.d with
 | some ds=>Q (enD ds) e1
 | none=>False) X
theorem zsS (h:zcA w):zoK (iEn w):=λe Q Q' X X' hq hx q=>h _ _ _ _ _ (λm e1 q=>by
 split at q
 ·exact hq _ _ q
 ·exact q.elim) hx q
theorem si_en (hg:Gl y.X "enumerate") (hm:y.X.mg "enumerate" = none) (h:SE y a w) (hs:starEach [a] y.X.env=[(false,eval a y.X.env)]):SI y (.Tuple elts kk tpos) (.Call (.Name "enumerate" p) [a] [] pos) (iEn w) where
 run:=⟨λpins s σ H R I ⟨e,P,h0,q⟩=>by
  refine Call_ (ld_blt I hg hm boot_enumerate (PyProof.Rows.callWith_type1 (thn ((zhl (zab h) zaf hs).run.run pos pins s σ H (λvs H1=>∃ (v:V) (m:M) (ds:List D) (e1:En),vs=[v]/\seqD m.d=some ds/\Ok y.X.K H1 σ e1 ((v,.fz m.d)::P) /\
   ∀ J H1 R',Walks y.X.K true J (enD ds) R'->Ok y.X.K H1 σ e1 (R'++P)->R J H1) I ⟨e,P,h0,h.mono _ _ _ _ _ (λm e1 q vs H1 o => ?_) (λ_ _ q=>q) q⟩) λus s1 ⟨vs,H1,I1,r1,v,m,ds,e1,ev,em,o,q⟩ => ?_) hs rfl))
  ·obtain ⟨o,p⟩:=o
   match vs,p with
   | [v],p =>
     split at q
     ·rename_i ds em
      have o:Ok y.X.K H1 σ e1 ((v,m)::P):=o
      exact ⟨v,m,ds,e1,rfl,em,o.freeze,q⟩
     ·exact q.elim
  ·subst ev
   cases r1 with
   | cons r rr =>
     cases rr
     obtain ⟨G,g⟩:=o.2.opn
     obtain ⟨F,w⟩:=g.own (v,.fz m.d) (yag _ yaa)
     have fresh:∀ {h':Heap} {T:Addr->Prop},(∀ b u,s1.heap.get? b=some u->h'.get? b=some u)->∀ b∈[s1.heap.objs.size+1,s1.heap.objs.size],FpOk y.X pins H1 b:=by
      intro h' T _ b hb
      have le:s1.heap.objs.size<=b:=by
       rcases yao.mp hb with z | z
       ·omega
       ·have:=yar.mp z
        omega
      exact I1.fpOk le (I1.hok.fresh le)
     cases w with
     | fz w =>
       generalize m.d=d at w em o
       cases w with
       | tup ht rs =>
         rename_i a vs ds'
         cases em
         cases r
         have sq:SqT y.X.K H1 a vs:=(ht.mono g.ex).sqT
         obtain ⟨its,rv,p1,_⟩:=I1.tuple sq
         have tp:s1.heap.IsTuple a its.toArray:=p1
         have la:a<s1.heap.objs.size:=by
          obtain ⟨_,z,_⟩:=p1
          exact Heap.lt_size z
         refine zvn (begins_tuple a its.toArray) tp λh' he hit hk=>wpAny_pyIter_enum he ?_
         have I2:Inv y.X pins σ H1 { s1 with heap:=h' }:=I1.kept (t':=s1.toks) hk
         exact ⟨s1.heap.objs.size+1,[s1.heap.objs.size+1,s1.heap.objs.size],_,_,H1,rfl,I2,zsQ a (s1.heap.objs.size+1) s1.heap.objs.size ds.length,⟨⟨.none,he⟩,⟨_,hit,rfl,rfl⟩,Nat.succ_ne_self _,yb6 la,yb6 (ybT la),ya4 _⟩,fresh (T:=λ_=>True) hk,q _ H1 _ zqD o⟩
       | lst hs' rs =>
         rename_i a vs ds'
         cases em
         cases r
         obtain ⟨its,rv,p1,_⟩:=I1.list (SqL.of (K:=y.X.K) (g.ex.keep hs'))
         refine call_enumerate_list p1.isList λh' he hit _ hk=>wpAny_pyIter_enum he ?_
         have I2:Inv y.X pins σ H1 { s1 with heap:=h' }:=I1.kept (t':=s1.toks) hk
         exact ⟨s1.heap.objs.size+1,[s1.heap.objs.size+1,s1.heap.objs.size],_,_,H1,rfl,I2,turn_enum a (s1.heap.objs.size+1) s1.heap.objs.size,⟨⟨.none,he⟩,hit,Nat.succ_ne_self _⟩,fresh (T:=λ_=>True) hk,q _ H1 _ zqE o⟩
       | non=>cases em
       | bl _=>cases em
       | int _=>cases em
       | str _=>cases em
       | ty _=>cases em
       | opq _=>cases em
       | att _ _=>cases em
       | adr _=>cases em
       | atx _ _=>cases em
       | scr _=>cases em
       | dK _ _=>cases em
       | dT _ _=>cases em⟩
 mono:=zsS h.mono
end
end VW
namespace VW
open PySem PySem.Spec PyProof.Rows L2 R
section
variable {y:Y} {a:Expr} {w:WE} {p pos tpos:Pos} {elts:List Expr} {kk:Nat}
theorem xen (hm:y.X.mg "enumerate" = none) (h:SE y a w) (hg:Gl y.X "enumerate" := by rfl) (hs:starEach [a] y.X.env=[(false,eval a y.X.env)]:=by rfl):SI y (.Tuple elts kk tpos) (.Call (.Name "enumerate" p) [a] [] pos) (iEn w):=si_en hg hm h hs
end
def wLr1 (o:WO):WE:=λe Q X=>o e (λa e1=>zbB a e1 λm=>zc4 m λj=>(rngB j/\j<=16777216)/\Q (.lst (rngD 0 j.toNat)) e1) X
theorem zvo {K:PySem.W.Frag} {G:Hp} (i j:Int):Reps K G (rgV i j) (rngD i (j-i).toNat):=by
 unfold rgV rngD
 have e1:(List.range (j-i).toNat).map (λk=>V.int (i+(k:Nat)))=((List.range (j-i).toNat).map λ(k:Nat)=>i+(k:Int)).map V.int:=by rw [yaK]; rfl
 have e2:(List.range (j-i).toNat).map (λ(k:Nat)=>D.int (i+(k:Int)))=((List.range (j-i).toNat).map λ(k:Nat)=>i+(k:Int)).map D.int:=by rw [yaK]; rfl
 rw [e1,e2]
 exact Reps.ofInts _
section
variable {y:Y} {a b:Expr} {o o':WO} {p pos p2 pos2:Pos}
theorem se_lr1 (hc:y.X.calm=true) (hg:Gl y.X "list") (hm:y.X.mg "list" = none) (hg2:Gl y.X "range") (hm2:y.X.mg "range" = none) (ha:SO y a o) (na:starEach [a] y.X.env=(false,eval a y.X.env)::starEach [] y.X.env)
 (nb:starEach [.Call (.Name "range" p2) [a] [] pos2] y.X.env=(false,eval (.Call (.Name "range" p2) [a] [] pos2) y.X.env)::starEach [] y.X.env):SE y (.Call (.Name "list" p) [.Call (.Name "range" p2) [a] [] pos2] [] pos) (wLr1 o) where
 run:=zbH (pe_listRg hc hg hm (prg_1 hg2 hm2 ha.run na) nb) λσ H Q ⟨e,P,h0,q⟩=>⟨e,P,h0,ha.mono _ _ _ _ _ (λa e1 q v H1 o=>by
  obtain ⟨o,p⟩:=o
  obtain ⟨m,m1,q⟩:=zdG o p q
  obtain ⟨G,g⟩:=o.2.opn
  obtain ⟨j,rfl,c,q⟩:=zbs (g.ownX _ m1) q
  refine ⟨j,rfl,⟨by decide,by decide,c.1.1,c.1.2,?_⟩,λr hr=>q _ _ (g.fin o.1 (.lst hr ?_))⟩
  ·have:=c.2
   show (j-0).toNat<=2 ^ 24
   omega
  ·have:=zvo (K:=y.X.K) (G:=G) 0 j
   rw [Int.sub_zero] at this
   exact this) (λ_ _ q=>q) q⟩
 mono:=λe Q Q' X X' hq hx q=>ha.mono _ _ _ _ _ (λa e1 q=>zaX (λm q=>za5 (λj q=>⟨q.1,hq _ _ q.2⟩) q) q) hx q
theorem xlr1 (hc:y.X.calm=true) (hm:y.X.mg "list" = none) (hm2:y.X.mg "range" = none) (ha:SO y a o) (hg:Gl y.X "list" := by rfl) (hg2:Gl y.X "range" := by rfl) (na:starEach [a] y.X.env=(false,eval a y.X.env)::starEach [] y.X.env:=by rfl)
 (nb:starEach [.Call (.Name "range" p2) [a] [] pos2] y.X.env=(false,eval (.Call (.Name "range" p2) [a] [] pos2) y.X.env)::starEach [] y.X.env:=by rfl):SE y (.Call (.Name "list" p) [.Call (.Name "range" p2) [a] [] pos2] [] pos) (wLr1 o):=se_lr1 hc hg hm hg2 hm2 ha na nb
end
def nLr1 (a:D):R (List D):=(ofO (intD a)).bind λj=>need (decide (rngB j)&&decide (j<=16777216)) (.ok (rngD 0 j.toNat))
def zoY (a:D):R (List D):=(ofO (seqD a)).bind λds=>.ok (enD ds)
def enK (m:M) (QI:List D->En->Prop) (e1:En):Prop:=match seqD m.d with
 | some ds=>QI (enD ds) e1
 | none=>False
def zcf (a b:D):R (List D):=match a,b with
 | .lst s,.lst t=>need (Nat.ble (s.length+t.length) sizeLine) (.ok (s++t))
 | _,_=>.no
def opMx (f:Int->Int->Int):OPN:=λms q=>match ms with
 | [.fz (.int i),.fz (.int j)]=>q (.fz (.int (f i j)))
 | _=>False
def imax (i j:Int):Int:=if j > i then j else i
def nMx (f:Int->Int->Int) (a b:D):R D:=match a,b with
 | .int i,.int j=>.ok (.int (f i j))
 | _,_=>.no
section
variable {K:PySem.W.Frag}
theorem snd_mx (f:Int->Int->Int):SndN K (λxs H Q=>∃ i j,xs=[.int i,.int j]/\Q (.int (f i j)) H) (opMx f) where
 run:=λG H xs ms Q ex ow q=>by
  unfold opMx at q
  split at q
  ·rename_i i j
   match xs,ow with
   | [x,y],ow =>
     obtain ⟨⟨F1,w1⟩,⟨F2,w2⟩,_⟩:=ow
     cases w1 with
     | fz w1 =>
       cases w1
       cases w2 with
       | fz w2 =>
         cases w2
         exact ⟨_,_,rfl,q _ _ (.same (.int _))⟩
  ·exact q.elim
 mono:=λa q q' h k=>by
  unfold opMx at *
  split at k
  ·exact h _ k
  ·exact k.elim
end
section
variable {α β:Type} {P:β->Prop} {XP:Xn->Prop} {k:M->Prop} {ma mb:M} {e:En} {QI:List D->En->Prop} {XX:XQ} {w:WE}
theorem k_ien (q:w e (λm e1=>enK m QI e1) XX):iEn w e QI XX:=q
theorem k_enum {f:List D->R β} (h:((zoY ma.d).bind f).post P XP) (q:∀ v,(f v).post P XP->QI v e):enK ma QI e:=by
 unfold zoY at h
 unfold enK
 cases e1:seqD ma.d with
 | none =>
   rw [e1] at h
   exact h.elim
 | some ds =>
   rw [e1] at h
   exact q _ h
def lr1K (m:M) (QE:M->En->Prop) (e1:En):Prop:=zc4 m λj=>(rngB j/\j<=16777216)/\QE (.lst (rngD 0 j.toNat)) e1
theorem k_lr1 {QE:M->En->Prop} {f:List D->R β} (h:((nLr1 ma.d).bind f).post P XP) (q:∀ v,(f v).post P XP->QE (.lst v) e):lr1K ma QE e:=by
 unfold nLr1 at h
 obtain ⟨i,e1,h⟩:=zb3 h
 obtain ⟨c,h⟩:=zbx h
 rw [yap] at c
 exact zc9 e1 ⟨⟨yai c.1,yai c.2⟩,q _ h⟩
theorem k_wlr1 {o:WO} {QE:M->En->Prop} (q:o e (λa e1=>zbB a e1 λm=>lr1K m QE e1) XX):wLr1 o e QE XX:=q
theorem zdk {f:List D->R β} (h:((zcf ma.d mb.d).bind f).post P XP) (q:∀ v,(f v).post P XP->k (.lst v)):zaS ma mb k:=by
 unfold zcf at h
 split at h
 ·rename_i e1 e2
  obtain ⟨c,h⟩:=zbx h
  exact zqz e1 e2 (yaD c) (q _ h)
 ·exact h.elim
theorem k_mx {g:Int->Int->Int} {f:D->R β} (h:((nMx g ma.d mb.d).bind f).post P XP) (q:∀ v,(f v).post P XP->k (.fz v)):opMx g [ma,mb] k:=by
 unfold nMx at h
 split at h
 ·rename_i e1 e2
  rw [zgR e1,zgR e2]
  exact q _ h
 ·exact h.elim
end
mutual
theorem zi9 {h:Heap}:∀ {v:Value} {d:PyData} {as:List Addr},Reads h v d as->∀ a∈as,a<h.objs.size
 | _,_,_,.none=>λ_ z=>nomatch z
 | _,_,_,.bool _=>λ_ z=>nomatch z
 | _,_,_,.int _ _=>λ_ z=>nomatch z
 | _,_,_,.str _ _=>λ_ z=>nomatch z
 | _,_,_,.list h1 _ _ r=>λa z=>(yao.mp z).elim (λe=>e▸Heap.lt_size h1) (reads_there' r a)
 | _,_,_,.tuple _ _ _ r=>reads_there' r
 | _,_,_,.dict h1 _ _ r1 r2=>λa z=>(yas.mp z).elim (λz=>(yao.mp z).elim (λe=>e▸Heap.lt_size h1) (reads_there' r1 a)) (reads_there' r2 a)
theorem reads_there' {h:Heap}:∀ {vs:List Value} {ds:List PyData} {as:List Addr},ReadsAll h vs ds as->∀ a∈as,a<h.objs.size
 | _,_,_,.nil=>λ_ z=>nomatch z
 | _,_,_,.cons r1 r2=>λa z=>(yas.mp z).elim (zi9 r1 a) (reads_there' r2 a)
end
theorem zsT {K:PySem.W.Frag} {H:Hp}:∀ {vs:List V} {ps:List PyData} {its:List Value},Vals vs its->DpAll K H vs ps->PySem.W.EachIs (λ(v:Value) (b:V×PyData)=>RelV b.1 v/\Dp K H b.1 b.2) its (vs.zip ps):=by
 intro vs ps its rv hd
 induction rv generalizing ps with
 | nil =>
   cases hd
   exact .nil
 | cons r rv ih =>
   cases hd with
   | cons h hd=>exact .cons ⟨r,h⟩ (ih hd)
theorem zqF {K:PySem.W.Frag} {H:Hp}:∀ {out:List Value} {bs:List (V×PyData)},PySem.W.EachIs (λ(v:Value) (b:V×PyData)=>RelV b.1 v/\Dp K H b.1 b.2) out bs->Vals (bs.map (·.1)) out:=by
 intro out bs e
 induction e with
 | nil=>exact .nil
 | cons h _ ih=>exact .cons h.1 ih
section
variable {X:Cx}
theorem zqG {pins:List (Addr×Obj)} {σ:L2.St} {H:Hp} {s:Shared} {acc:List Value} {vs:List V} {ps:List PyData} {Q:VK} (hu:X.A.units+64<cLine) (I0:Inv X pins σ H s)
 (rv:Vals vs acc) (hd:DpAll X.K H vs ps) (hz:vs.length<=sizeLine) (ok:zet ps=true) (q:∀ p,H p=none->Q (.ref p) (upd H p (.lst (((vs.zip ps).mergeSort (PySem.W.dataLe false (·.2))).map (·.1))))) :
 wpAny (model X.prog X.w) X.A.in1 (call (.builtin "list.sort") [.ref s.heap.objs.size]) (λ_ s2=>EP X pins σ Q (.ref s.heap.objs.size) s2) X.xe { s with heap:=s.heap.push (seqObj "list" acc.toArray 0) }:=by
 have len:=zqm hd
 have ho:(s.heap.push (seqObj "list" acc.toArray 0)).get? s.heap.objs.size=some (seqObj "list" acc.toArray 0):=Heap.get?_push_size _ rfl
 unfold zet at ok
 obtain ⟨ok,o3⟩:=yaL.mp ok
 obtain ⟨o1,o2⟩:=yaL.mp ok
 have em:(vs.zip ps).map (·.2)=ps:=by
  rw [List.map_snd_zip]
  omega
 have mem:∀ b,b∈vs.zip ps->b.2∈ps:=λb hb=>(ycq hb).2
 have each:=zsT rv hd
 refine PySem.W.list_sort_data (R:=λ(v:Value) (b:V×PyData)=>RelV b.1 v/\Dp X.K H b.1 b.2) (enc:=(·.2)) (bs:=vs.zip ps) ho each ?_ ?_ ?_ ?_ ?_ λout ol eo => ?_
 ·refine each.mono λv b ⟨h1,h2⟩ => ?_
  obtain ⟨as,r⟩:=Dp.reads I0 b.2 b.1 v h2 h1
  refine ⟨as,PyProof.Rows.Reads.keeps (λb o e=>Heap.get?_push_of_some _ e) r,λz => ?_⟩
  exact ycy s.heap.objs.size (zi9 r _ z)
 ·rw [em]
  intro d hd d' hd'
  exact yam.mp (yam.mp o1 d hd) d' hd'
 ·rw [em]
  rcases Bool.or_eq_true_iff.mp o3 with z | z
  ·refine .inl λd hd => ?_
   have:=yam.mp z d hd
   split at this
   ·exact ⟨_,_,rfl⟩
   ·cases this
  ·refine .inr λd hd => ?_
   have:=yam.mp z d hd
   refine ⟨λe => ?_,λxs e => ?_⟩
   ·rw [e] at this
    cases this
   ·rw [e] at this
    cases this
 ·rw [ybZ,← len,ycr]
  exact hz
 ·intro b hb
  have:=yai (yam.mp o2 b.2 (mem b hb))
  show X.A.units+1+1+_<cLine
  omega
 ·obtain ⟨ep,he⟩:=PyProof.Rows.sortedHeap_at (out:=out.toArray) ho
  have vout:=zqF eo
  have hlen:(((vs.zip ps).mergeSort (PySem.W.dataLe false (·.2))).map (·.1)).length<=sizeLine:=by
   rw [yac,List.length_mergeSort,ybZ,← len,ycr]
   exact hz
  exact ⟨.ref s.heap.objs.size,upd H s.heap.objs.size (.lst _),I0.laid (t':=s.toks) (λb o z=>by
   have l:=Heap.lt_size z
   rw [PyProof.Rows.sortedHeap_old (yb6 l) (by rw [Heap.size_push]; exact ybT l)]
   exact Heap.get?_push_of_some _ z) (yaw _) ⟨hlen,out,ep,vout,he⟩,rfl,q _ (I0.hok.fresh (yaw _))⟩
end
def dOfK:Key->D
 | .inl i=>.int i
 | .inr s=>.str s
def tupK (ks:List Key):D:=.tup (ks.map dOfK)
def keysDT (kds:List (List Key×D)):List D:=kds.map λkv=>tupK kv.1
def zt8 (kds:List (List Key×D)):Bool:=kds.all λkv=>hdI kv.1
end VW
namespace VW
open PySem PySem.Spec PyProof.Rows L2
abbrev zvp (en:DictEntry):Obj:={ cls:=.type "tuple",data:=.seq #[en.key,en.val] }
structure Made (es:Array DictEntry) (lo:Addr) (h:Heap) (ts:List Addr):Prop where
 rise:ts.Pairwise (· < ·)
 over:∀ t∈ts,lo<t
 pair:∀ (j:Nat) (t:Addr),ts[j]?=some t->∃ en,es[j]?=some en/\h.get? t=some (zvp en)
theorem Made.lt {es:Array DictEntry} {lo:Addr} {h:Heap} {ts:List Addr} (g:Made es lo h ts) {t:Addr} (m:t∈ts):t<h.objs.size:=by
 obtain ⟨j,hj⟩:=List.mem_iff_getElem?.mp m
 obtain ⟨_,_,e⟩:=g.pair j t hj
 exact Heap.lt_size e
def Exs (H H':Hp):Prop:=∀ a o,H a=some o->H' a=some o
theorem Exs.trans {H H1 H2:Hp} (a:Exs H H1) (b:Exs H1 H2):Exs H H2:=λx o h=>b x o (a x o h)
def lay (H:Hp):List (Addr×HO)->Hp
 | []=>H
 | x::r=>upd (lay H r) x.1 x.2
def zvq (kds:List (Key×D)):List D:=kds.map λkv=>.tup [dOfK kv.1,kv.2]
def zvr (kds:List (List Key×D)):List D:=kds.map λkv=>.tup [tupK kv.1,kv.2]
open R
end VW
namespace VW
open PySem PySem.Spec PyProof.Rows L2
def zk4 (ds:List D) (q:M->Prop):Prop:=match D.pys ds with
 | some ps=>zet ps=true/\q (.lst (zdt ds))
 | none=>False
def zfx:OPN:=λms q=>one ms λm=>match m.d with
 | .lst ds=>zk4 ds q
 | .tup ds=>zk4 ds q
 | _=>False
def zof (K:PySem.W.Frag):List V->Hp->VK->Prop:=λxs H Q=>∃ a vs ps,xs=[V.ref a]/\SqT K H a vs/\DpAll K H vs ps/\zet ps=true/\∀ p,H p=none->Q (.ref p) (upd H p (.lst (((vs.zip ps).mergeSort (PySem.W.dataLe false (·.2))).map (·.1))))
section
variable {X:Cx} {K:PySem.W.Frag}
theorem zlY (hu:X.A.units+64<cLine):CallR X (.builtin "sorted") (zof X.K):=by
 intro pins s σ H xs us Q I r ⟨a,vs,ps,ex,hs,hd,ok,q⟩
 subst ex
 obtain ⟨its,rv,⟨o,ho,hc,n,hdat⟩,hz⟩:=I.tuple hs
 rw [Vals.ref1 r]
 have len:vs.length=its.length:=Vals.length rv
 refine Calls.call_function_entry PyProof.Rows.kind_sorted PyProof.Rows.plain_sorted PyProof.Rows.entry_sorted (PyProof.Rows.args_sorted1 _) ?_
 unfold Builtin.«sorted»
 refine wpAny_bind (m:=checkCount "sorted" 1 1 _) (wpAny_pure ?_)
 refine wpAny_bind (wpAny_collect_seq (T := "tuple") a (.inr rfl) ho hc hdat (λh' hk => ?_) (by rw [ybt]; omega))
 refine wpAny_bind (wpAny_newList ?_ (by simp only [ybL]; omega))
 have I0:Inv X pins σ H { s with heap:=h' }:=I.kept (t':=s.toks) hk
 have fin:=zqG (acc:=its.toArray.toList) hu I0 rv hd hz ok q
 refine wpAny_bind (wpAny_holding (wpAny_mono fin (λ_ s' x => ?_) λ_ _ e=>e))
 exact wpAny_pure ⟨_,rfl,x⟩
abbrev zt9 (K:PySem.W.Frag):List V->Hp->VK->Prop:=λxs H Q=>zu0 K xs H Q\/zof K xs H Q
theorem zkk (hu:X.A.units+64<cLine):CallR X (.builtin "sorted") (zt9 X.K):=CallR.or (zlO hu) (zlY hu)
theorem zkl {ds:List D} {q q':M->Prop} (h:∀ m,q m->q' m) (k:zk4 ds q):zk4 ds q':=by
 unfold zk4 at *
 split at k
 ·exact ⟨k.1,h _ k.2⟩
 ·exact k.elim
theorem zja:SndN K (zt9 K) zfx where
 run:=λG H xs ms Q ex ow q=>by
  obtain ⟨v,m,rfl,rfl,⟨F,w⟩,q⟩:=zd9 ow q
  split at q
  ·rename_i ds e
   unfold zk4 at q
   split at q
   ·rename_i ps ep
    obtain ⟨a,vs,rfl,h1,r1⟩:=zdq ex w e
    exact .inl ⟨a,vs,ps,rfl,.of h1,Reps.dp ex r1 ep,q.1,λp n=>q.2 _ _ (.lst n (ziZ r1 ep))⟩
   ·exact q.elim
  ·rename_i ds e
   unfold zk4 at q
   split at q
   ·rename_i ps ep
    obtain ⟨a,vs,rfl,h1,r1⟩:=ziW ex w e
    exact .inr ⟨a,vs,ps,rfl,h1.sqT,Reps.dp ex r1 ep,q.1,λp n=>q.2 _ _ (.lst n (ziZ r1 ep))⟩
   ·exact q.elim
  ·exact q.elim
 mono:=λa q q' h k=>zc7 (λm k=>by
  split at k
  ·exact zkl h k
  ·exact zkl h k
  ·exact k.elim) k
end
open R
def zk5 (ds:List D):R (List D):=(ofO (D.pys ds)).bind λps=>need (zet ps) (.ok (zdt ds))
def zcs (a:D):R (List D):=match a with
 | .lst ds=>zk5 ds
 | .tup ds=>zk5 ds
 | _=>.no
section
variable {β:Type} {P:β->Prop} {XP:Xn->Prop} {ma:M} {k:M->Prop}
theorem zog {ds:List D} {f:List D->R β} (h:((zk5 ds).bind f).post P XP) (q:∀ v,(f v).post P XP->k (.lst v)):zk4 ds k:=by
 unfold zk5 at h
 obtain ⟨ps,e1,h⟩:=zb3 h
 obtain ⟨c,h⟩:=zbx h
 unfold zk4
 try rw [e1]
 exact ⟨c,q _ h⟩
theorem zlZ {f:List D->R β} (h:((zcs ma.d).bind f).post P XP) (q:∀ v,(f v).post P XP->k (.lst v)):zfx [ma] k:=by
 unfold zcs at h
 unfold zfx one
 try dsimp only
 split at h
 ·rename_i e
  try rw [e]
  exact zog h q
 ·rename_i e
  try rw [e]
  exact zog h q
 ·exact h.elim
end
end VW
namespace VW
open PySem PySem.Spec PyProof.Rows L2 R
def idxV (y:V):List V->Option Nat
 | []=>none
 | z::zs=>if eqV z y=true then some 0 else (idxV y zs).map (· + 1)
def opLIx:M->OPN:=λm ms q=>one ms λa=>match m.d with
 | .lst ds=>match zc5 a.d,zd8 ds with
   | some y,some ys=>(match idxV y ys with
     | some j=>q (.fz (.int (j:Nat)))
     | none=>False)
   | _,_=>False
 | _=>False
def nLIx (a b:D):R D:=match a with
 | .lst ds=>match zc5 b,zd8 ds with
   | some y,some ys=>(match idxV y ys with
     | some j=>.ok (.int (j:Nat))
     | none=>.no)
   | _,_=>.no
 | _=>.no
section
variable {β:Type} {P:β->Prop} {XP:Xn->Prop} {ma mb:M} {k:M->Prop}
theorem k_forX {wi:WI} {g:Tg} {A:WS} {E:WEnds} {e:En} (q:∀ QI:List D->En->Prop,(∀ ds e1,zem g A E ds e1->QI ds e1)->wi e QI E.ex):sFor wi g A E e:=q _ λ_ _ h=>h
theorem zvs {ds:List D} {QI:List D->En->Prop} {e:En} (h:zlK ma.d=some ds) (q:QI ds e):itK ma QI e:=by
 unfold itK
 rw [h]
 exact q
end
def nD1 (k v:D):R (List (Key×D)):=(ofO (keyK k)).bind λy=>.ok [(y,v)]
def isDctD:D->Bool
 | .dK _=>true
 | .dT _=>true
 | _=>false
def nGet2 (d k x:D):R D:=match d with
 | .dK kvs=>(ofO (keyK k)).bind λy=>.ok ((getK kvs y).getD x)
 | .dT kvs=>(ofO (keyT k)).bind λy=>.ok ((getK kvs y).getD x)
 | _=>.no
def nTy (T:String) (d:D):R Unit:=need (mTy T d) (.ok ())
theorem zsU {β:Type} {P:β->Prop} {XP:Xn->Prop} {T:String} {d:D} {f:Unit->R β} {G:Prop} (h:((nTy T d).bind f).post P XP) (q:mTy T d=true->(f ()).post P XP->G):G:=by
 unfold nTy at h
 obtain ⟨c,h⟩:=zbx h
 exact q c h
end VW
namespace L2
open PySem PySem.Spec PyProof.Rows
end L2
namespace VW
open PySem PySem.Spec PyProof.Rows L2 R
def keysDK (kds:List (Key×D)):List D:=kds.map λkv=>dOfK kv.1
def keysD:D->Option (List D)
 | .dT kds=>if zt8 kds=true then some (keysDT kds) else none
 | .dK kds=>some (keysDK kds)
 | _=>none
def zqH:D->Option (List D)
 | .dT kds=>if zt8 kds=true then some (zvr kds) else none
 | _=>none
def itemsK:D->Option (List D)
 | .dK kds=>some (zvq kds)
 | _=>none
def nO (g:D->Option (List D)) (a:D):R (List D):=ofO (g a)
def zvt:List D->Option (List Int)
 | []=>some []
 | .int i::ds=>(zvt ds).map (i :: ·)
 | _=>none
theorem zjT {W:WE} {m:M} {e e':En} {Q:M->En->Prop} {X:XQ} (h:∀ Q:M->En->Prop,Q m e'->W e Q X) (q:Q m e'):W e Q X:=h Q q
def opInV:OP2:=λma md k=>match ma.d,md.d with
 | .int j,.dK kds=>match zvt (kds.map (·.2)) with
   | some is=>k (.fz (.bl (decide (j∈is))))
   | none=>False
 | _,_=>False
def nInV (a b:D):R Bool:=match a,b with
 | .int j,.dK kds=>(ofO (zvt (kds.map (·.2)))).bind λis=>.ok (decide (j∈is))
 | _,_=>.no
def setM (f:Str) (x:V×FM):List (Str×V×FM)->List (Str×V×FM)
 | []=>[(f,x)]
 | (g,z)::fs=>if g=f then (g,x)::fs else (g,z)::setM f x fs
def oFld (C:Addr) (i:Nat) (f:Str):WO:=λe Q _=>match e[i]? with
 | some (some (.ob C' _ fs))=>C'=C/\(match fs.lookup f with
   | some x=>Q (.fd i f x.1) e
   | none=>False)
 | _=>False
def CalM (P:Program) (w:World) (K:PySem.W.Frag) (mg:Str->Option Value) (base:Heap) (xr:Xn->Value->Option Addr->Hp->Prop) (k:Nat) (C:Addr) (m:Str) (fn:Fn):Prop :=
 zcS fn.sp/\∃ f fd ps,FnOk P w K mg base (L2.CX P w) k f fd ps (spOf K xr fn)/\Meth K C m f/\Binds K fd ps []
def CalI (P:Program) (w:World) (K:PySem.W.Frag) (mg:Str->Option Value) (base:Heap) (xr:Xn->Value->Option Addr->Hp->Prop) (k:Nat) (C:Addr) (fn:Fn):Prop :=
 zcS fn.sp/\∃ f fd ps,FnOk P w K mg base (L2.CX P w) k f fd ps (spOf K xr fn)/\Mk K C f/\Binds K fd ps []
def frz1 (f:Str) (fs:List (Str×V×FM)):List (Str×V×FM):=match fs.lookup f with
 | some x=>setM f (x.1,.fz x.2.m.d) (setM f (x.1,.fz .opq) fs)
 | none=>fs
def frzL:List Str->List (Str×V×FM)->List (Str×V×FM)
 | [],fs=>fs
 | f::ns,fs=>frzL ns (frz1 f fs)
section
variable {P:Program} {w:World} {K:PySem.W.Frag} {mg:Str->Option Value} {base:Heap} {xr:Xn->Value->Option Addr->Hp->Prop} {k k':Nat} {C:Addr} {m:Str} {fn:Fn}
theorem CalM.up (h:CalM P w K mg base xr k C m fn) (hk:k<=k'):CalM P w K mg base xr k' C m fn:=by
 obtain ⟨hf,f,fd,ps,F,hm,hb⟩:=h
 exact ⟨hf,f,fd,ps,F.mono hk,hm,hb⟩
theorem CalI.up (h:CalI P w K mg base xr k C fn) (hk:k<=k'):CalI P w K mg base xr k' C fn:=by
 obtain ⟨hf,f,fd,ps,F,hm,hb⟩:=h
 exact ⟨hf,f,fd,ps,F.mono hk,hm,hb⟩
end
example (x y z:V×FM):setM "met" x [("place",y),("met",z)]=([("place",y),("met",x)]:List (Str×V×FM)):=rfl
example (y z:V×FM):List.lookup ("met" : Str) [("place",y),("met",z)]=some z:=rfl
example (y z:V×FM):List.lookup ("over" : Str) [("place",y),("met",z)]=none:=rfl
example (u v:V) (l:List (List Key×VW.D)) (k:List (Key×VW.D)):VW.frzL ["outside"] [("outside",u,.dT l),("met",v,.dK k)]=([("outside",u,.fz (.dT l)),("met",v,.dK k)]:List (Str×V×FM)):=rfl
def xrT (K:PySem.W.Frag) (NS:List Str):Xn->Value->Option Addr->Hp->Prop:=λx c d H =>
 NS.contains x.cls=true/\c=.ref (He.ga K x.cls)/\match x.fld with
  | none=>d=none
  | some (f,v)=>∃ dd w,d=some dd/\H dd=some (.xd [(f,w)])/\zc5 v=some w
structure ExK (K:PySem.W.Frag) (mg:Str->Option Value) (x:Str):Prop where
 q:PySem.W.excIn K (He.ga K x) He.veBase "ValueError.__new__" = true
 kp:PySem.W.keepIn K (.ref (He.ga K x))=true
 sb:PySem.W.subIn K (.ref (He.ga K x)) (.type "BaseException")=some true
 ty:PySem.W.typeIn K (.ref (He.ga K x))=some (.type "type")
structure Xs (K:PySem.W.Frag) (mg:Str->Option Value) (xr:Xn->Value->Option Addr->Hp->Prop) (NS NP:List Str):Prop where
 rel:xr=xrT K NS
 at_:∀ x,NS.contains x=true->mg x=some (.ref (He.ga K x))
 cls:∀ x,NP.contains x=true->ExK K mg x
 xc:∀ x,NS.contains x=true->ExcC K (He.ga K x)
 exm:∀ x y,NS.contains x=true->NS.contains y=true->PySem.W.exmOne K (.ref (He.ga K x)) (.ref (He.ga K y))=some (subX x y)
 kit:∀ x y,NS.contains x=true->NS.contains y=true->PySem.W.kitOne K (.ref (He.ga K x)) (.ref (He.ga K y))=some (subX x y)
 kve:∀ x,NS.contains x=true->PySem.W.kitOne K (.ref (He.ga K x)) (.type "ValueError")=some true
def zqI (x:Xn):WS:=λE e=>E.ex x e
section
variable {y:Y} {κ:List (Nat×V)} {pos p p2 p3:Pos} {NS NP:List Str}
theorem yraise {x m:Str} {j:Nat} (xs:Xs y.X.K y.X.mg y.xr NS NP) (hn:NS.contains x=true) (hp:NP.contains x=true) (hc:y.X.calm=true:=by rfl) (tk:Takes y.X y.W:=by exact takes_of rfl rfl rfl rfl) (hg:Gl y.X x:=by rfl)
 (hdb:(x==("__debug__" : Str))=false:=by decide):SS y κ (.Raise (some (.Call (.Name x p) [.Constant (.str m) j p2] [] p3)) none pos) (zqI ⟨x,none⟩) where
 run:=zdW (ps_raise hc tk (pmk_own PySem.F.excBase_ValueError (xs.cls x hp).q (xs.at_ x hn) (xs.cls x hp).kp (raises_own (xs.cls x hp).sb (xs.cls x hp).ty) hg hdb)) λD σ H ⟨e,P,hk,h0,q⟩=>by
  refine q σ _ none H hk ?_ h0
  rw [xs.rel]
  exact ⟨hn,rfl,rfl⟩
 mono:=λE E' e l q=>l.ex _ _ q
end
def WEnds.unb (E:WEnds) (i:Nat):WEnds:={ nx:=λe=>E.nx (e.set i none),rt:=E.rt,bk:=λe=>E.bk (e.set i none),ct:=λe=>E.ct (e.set i none),ex:=λ_ _=>False }
theorem WEnds.Le.unb {E E':WEnds} (l:E.Le E') (i:Nat):(E.unb i).Le (E'.unb i):=⟨λe q=>l.nx _ q,l.rt,λe q=>l.bk _ q,λe q=>l.ct _ q,λ_ _ q=>q⟩
section
variable {y:Y} {κ:List (Nat×V)} {pos np pos':Pos} {NS NP:List Str} {body suite:List Stmt} {b₀:Stmt} {n nm:Str} {b:WS}
abbrev Y.tr (y:Y) (pn:List (Addr×Obj)) (xe:Value->Shared->Prop) (W:WX):Y:=⟨y.X.tr pn xe,y.xr,W⟩
abbrev Y.su (y:Y) (a:Addr) (pn:List (Addr×Obj)):Y:=⟨y.X.suite a pn,y.xr,λ_ _ _ _=>False⟩
structure InH (K:PySem.W.Frag) (NS:List Str) (x:Xn) (oe:Obj):Prop where
 ns:NS.contains x.cls=true
 cls:oe.cls=.ref (He.ga K x.cls)
 dict:x.fld=none->oe.dict=none
 fld:∃ vs,oe.data=.fields vs
end
structure FnE (P:Program) (w:World) (K:PySem.W.Frag) (mg:Str->Option Value) (base:Heap) (CX:CXT) (k:Nat) (f:Addr) (fd:FuncData) (ps:List Str) (Good:Addr×Obj->Prop) (sp:Addr->Sp):Prop where
 len:∀ a vs H Q E,sp a vs H Q E->vs.length=ps.length
 run:∀ (A:Around) (outer:List Env) (s:Shared) (H:Hp) (args:Args) (us:List Value) (vs:List V) (Q:VK) (E:XK) (p:Addr×Obj),L2H.RoomH k A->Good p->L2H.PinOk outer H s p->Env0 P w K mg base A outer s H->BindsTo s fd args (ps.zip us)->Vals vs us->sp p.1 vs H Q E ->
  codeAny (model P w) A (.call (.ref f) args) (CR CX outer P w H s Q E) s
theorem fn_ofE {CX:CXT} {P:Program} {w:World} {K:PySem.W.Frag} {mg:Str->Option Value} {base:Heap} {k:Nat} {f:Addr} {name qual:Str} {params:Arguments} {body:List Stmt} {scope:Scope} {dV kV doc pm cdv ct oc:Value} {an od:Option Addr}
 {osl:Array (Option Value)} {N ps:List Str} {Good:Addr×Obj->Prop} {sp:Addr->Sp} (lk:K.lookup f=some ⟨oc,od,.func (PySem.W.fnOf name qual params body scope dV kV doc pm an cdv ct),osl⟩) (hcd:PySem.W.codeIn K cdv qual=true) (S:FnScope N ps scope)
 (len:∀ a vs H Q E,sp a vs H Q E->vs.length=ps.length)
 (hbody:∀ (A:Around) (outer:List Env) (s:Shared) (H:Hp) (vs:List V) (Q:VK) (E:XK) (p:Addr×Obj),Good p->L2H.RoomH k (A.deeper (envOfC qual scope s.heap.objs.size f cdv))->sp p.1 vs H Q E ->
  ∃ t,PSs (L2H.cxH CX P w K mg base N qual scope f cdv A outer s H E p) body t/\t { nx:=λ_ H'=>Q .non H',rt:=Q } (L2.start N vs) H) :
 FnE P w K mg base CX (k+1) f (PySem.W.fnOf name qual params body scope dV kV doc pm an cdv ct) ps Good sp:=by
 refine ⟨len,λA outer s H args us vs Q E p hr good hpin e0 hb r hsp => ?_⟩
 have hl:=len _ _ _ _ _ hsp
 have KX:K.In s.heap:=e0.mod.kin.keeps λb o e=>(e0.bs b o e).1
 have lim:s.heap.NoLimit:=e0.mod.nolimit.keeps λb o e=>(e0.bs b o e).1
 have hkind:∀ y∈ps.zip us,scope.names.lookup y.1=some .local\/(scope.names.lookup y.1=some .cell/\((cellsFrom (s.heap.objs.size+1) scope.names []).lookup y.1).isSome=true):=λ⟨n,v⟩ hy=>by
  rcases S.par n (ycq hy).1 with q | q
  ·exact .inl q
  ·exact .inr ⟨q,PySem.W.cellsFrom_some _ _ _ (.inl q)⟩
 refine codeAny_call_function hr.depth (KX _ _ lk) rfl S.co S.gen rfl (PySem.W.codeRec_of KX hcd) (hb _ _ _ _ ?_)
 refine wpAny_newFunctionEnv_cells S.kind hkind λenv he s1 x => ?_
 subst he
 refine ⟨lim.keeps x.toInCall.keep,codeAny_func ?_⟩
 obtain ⟨t,ht,hq⟩:=hbody A outer s H vs Q E p good (hr.deeper _) hsp
 have I:Inv (L2H.cxH CX P w K mg base N qual scope f cdv A outer s H E p) [] (L2.start N vs) H s1:=L2H.inv_startH S hpin e0 hl r x
 refine wpAny_mono (ht.run [] s1 (L2.start N vs) H _ I hq) (λfl s' hs => ?_) λe s' hs=>hs
 have fin:∀ {σ':L2.St} {H':Hp} {v:V} {u:Value},Inv (L2H.cxH CX P w K mg base N qual scope f cdv A outer s H E p) [] σ' H' s'->RelV v u->Q v H'->CE outer P w H s Q u s' :=
  λ{σ' H' v u} J rv q=>⟨v,H',J.os,J.bare,J.base,J.hok,rv,q⟩
 cases fl with
 | ret u =>
   obtain ⟨v,σ',H',J,rv,q⟩:=hs
   exact fin J rv q
 | next =>
   obtain ⟨σ',H',J,q⟩:=hs
   exact fin (v:=V.non) (u:=Value.none) J rfl q
 | brk =>
   obtain ⟨_,_,_,q⟩:=hs
   exact False.elim q
 | cont =>
   obtain ⟨_,_,_,q⟩:=hs
   exact False.elim q
structure FnX where
 sp:Xn->(M->Prop)->Prop
def spE (K:PySem.W.Frag) (fn:FnX) (x:Xn) (a:Addr):Sp:=λvs H Q _=>vs=[.ref a]/\∃ P,Sep K H P/\fn.sp x (λm=>∀ v H',Sep K H' ((v,m)::P)->Q v H')
def zqJ (fn:FnX):Prop:=∀ x Q Q',(∀ m,Q m->Q' m)->fn.sp x Q->fn.sp x Q'
def CalE (P:Program) (w:World) (K:PySem.W.Frag) (mg:Str->Option Value) (base:Heap) (NS:List Str) (k:Nat) (f:Str) (fn:FnX):Prop :=
 zqJ fn/\∃ fa fd ps,(∀ x,x.fld=none->FnE P w K mg base (L2.CX P w) k fa fd ps (λp=>InH K NS x p.2) (spE K fn x))/\mg f=some (.ref fa)/\PySem.W.keepIn K (.ref fa)=true/\Binds K fd ps []
abbrev yE (P:Program) (w:World) (K:PySem.W.Frag) (mg:Str->Option Value) (base:Heap) (xr:Xn->Value->Option Addr->Hp->Prop) (N:List Str) (qual:Str) (scope:Scope) (f:Addr) (cdv:Value) (A:Around) (outer:List Env) (s:Shared) (H:Hp) (E:XK) (p:Addr×Obj):Y :=
 ⟨L2H.cxH (L2.CX P w) P w K mg base N qual scope f cdv A outer s H E p,xr,λ_ _ _ _=>False⟩
def R.tryC {α β:Type} (r:R α) (f:α->R β) (g:Xn->R β):R β:=match r with
 | .ok a=>f a
 | .ex x=>g x
 | .no=>.no
section
variable {α β:Type} {P:β->Prop} {XP:Xn->Prop}
theorem zua {P':α->Prop} {X':Xn->Prop} {rr:R α} {f:α->R β} {g:Xn->R β} (h:(R.tryC rr f g).post P XP) (q:∀ v,(f v).post P XP->P' v) (hx:∀ x,(g x).post P XP->X' x):rr.post P' X':=by
 cases rr with
 | ok a=>exact q a h
 | ex x=>exact hx x h
 | no=>exact h
theorem zvu {x:Xn} {E:WEnds} {e:En} (h:((R.ex x:R β)).post P XP) (hx:XP x->E.ex x e):zqI x E e:=hx h
theorem k_hdl {x:Xn} {n:Str} {r1:R β} {A B:Prop} (h:(if subX x.cls n=true then r1 else .ex x).post P XP) (q:r1.post P XP->A) (hx:XP x->B):if subX x.cls n=true then A else B:=by
 by_cases z:subX x.cls n=true
 ·rw [yaM z] at h ⊢
  exact q h
 ·rw [yaH z] at h ⊢
  exact hx h
theorem zqK {P':α->Prop} {rr:R α} {f:α->R β} (h:(rr.calm.bind f).post P XP) (q:∀ v,(f v).post P XP->P' v):rr.post P' (λ_=>False):=by
 cases rr with
 | ok a=>exact q a h
 | ex x=>exact h
 | no=>exact h
end
theorem zfy {i:Nat} {w:WE} (h:zcA w):zfn (sSet i w):=λE E' e l q=>h _ _ _ _ _ (λ_ _ q=>l.nx _ q) l.ex q
theorem CalE.up {P:Program} {w:World} {K:PySem.W.Frag} {mg:Str->Option Value} {base:Heap} {NS:List Str} {k k':Nat} {f:Str} {fn:FnX} (h:CalE P w K mg base NS k f fn) (hk:k<=k'):CalE P w K mg base NS k' f fn:=by
 obtain ⟨hx,fa,fd,ps,F,hm,kp,hb⟩:=h
 exact ⟨hx,fa,fd,ps,λx hx=>⟨(F x hx).len,λA outer s H args us vs Q E p hr=>(F x hx).run A outer s H args us vs Q E p (hr.mono hk)⟩,hm,kp,hb⟩
theorem zvv {k:Nat} {A:Around} {v:Option Value} (h:Room k A):L2H.RoomH k (A.mark v):=⟨h.dp,h.un⟩
theorem zsV (K:PySem.W.Frag):PySem.W.specialIn K (.builtin "object.__class__") "__get__" = some (some (.builtin "getset_descriptor.__get__")):=by kernel_rfl
theorem zsW (K:PySem.W.Frag):PySem.W.takesIn K (.builtin "object.__class__")=some true:=by kernel_rfl
theorem xcB_ok {K:PySem.W.Frag} {x:Str} (h:xcB K x=true):ExcC K (He.ga K x):=by
 unfold xcB at h
 obtain ⟨h1,h⟩:=He.ba h
 obtain ⟨h2,h⟩:=He.ba h
 obtain ⟨h3,h⟩:=He.ba h
 obtain ⟨h4,h⟩:=He.ba h
 obtain ⟨h5,h6⟩:=He.ba h
 exact ⟨ycz h1,ycz h2,yai h3,h4,ycz h5,zsV K,zsW K,yai h6⟩
theorem xsB_ok {K:PySem.W.Frag} {h:Heap} {mg:Str->Option Value} {NS NP:List Str} (X:K.In h) (G:h.Ns mainGlobals mg) (b:xsB NS NP K=true):Xs K mg (xrT K NS) NS NP:=by
 unfold xsB at b
 obtain ⟨b1,b2⟩:=He.ba b
 have at2:∀ x,NS.contains x=true->_:=λx hx=>He.ba (yam.mp b2 x (yaT.mp hx))
 refine ⟨rfl,λx hx=>ya0 X G (at2 x hx).1,λx hx => ?_,λx hx=>xcB_ok (He.ba (at2 x hx).2).1,λx y hx hy => ?_,λx y hx hy => ?_,λx hx => ?_⟩
 ·obtain ⟨e1,e2,e3,e4⟩:=He.exc_ok (yam.mp b1 x (yaT.mp hx))
  exact ⟨e1,e2,e3,e4⟩
 ·have z:=(He.ba (He.ba (at2 x hx).2).2).2
  exact yai (He.ba (yam.mp z y (yaT.mp hy))).1
 ·have z:=(He.ba (He.ba (at2 x hx).2).2).2
  exact yai (He.ba (yam.mp z y (yaT.mp hy))).2
 ·exact yai (He.ba (He.ba (at2 x hx).2).2).1
end VW
namespace VW
open PySem PySem.Spec PyProof.Rows L2
structure BaI (K:PySem.W.Frag) (mg:Str->Option Value) (CW:Addr):Prop where
 at_:mg "WeaveError" = some (.ref CW)
 rd:ClX.CRead K CW (.type "type")
 ini:PySem.W.findCls K (.ref CW) (.type "type") "__init__" = some (.val (.builtin "ValueError.__init__"))
section
variable {X:Cx} {e:Expr} {es:List Expr} {ta:TA} {p1 p2 pos:Pos} {CW:Addr}
theorem zgT {pl:Sem Bool} (hg:Gl X "WeaveError") (b:BaI X.K X.mg CW) (ha:PA X (e::es) ta)
 (hc:eval (.Call (.Attribute (.Name "WeaveError" p1) "__init__" p2) (e::es) [] pos) X.env=(do
  let ov ← eval (.Name "WeaveError" p1) X.env
  standAt p2.atName
  let (f,first) ← holding [ov] (getMethod ov "__init__" pl)
  callWith pos f first (backTo pos (starEach (e::es) X.env)) (backToKw pos (keywordEach [] X.env))):=by rfl)
 (he:starEach (e::es) X.env=(false,eval e X.env)::starEach es X.env:=by rfl) (hpl:(backTo pos (starEach es X.env)).any (·.1)=false:=by rfl) :
 PE X (.Call (.Attribute (.Name "WeaveError" p1) "__init__" p2) (e::es) [] pos) (tVeI X.K ta):=by
 refine ⟨λpins s σ H Q I h => ?_⟩
 refine PySem.W.methodCall_KW (ld_glob I hg b.at_ ?_ (by decide)) hc
 refine PySem.W.method_cls I.kIn b.rd.ga (PySem.W.cls_value I.kIn b.rd.rd b.ini (by decide +kernel) ?_)
 show wpAny _ _ (callWith pos (Value.builtin "ValueError.__init__") [] (backTo pos (starEach (e::es) X.env)) []) _ _ _
 refine PyProof.Rows.callWith_method1 (thn (ha.run pos pins _ σ H _ (I.tok _) h) λus s1 ⟨vs,H1,I1,r1,a,C,ws,ev,hl,T,ea,q⟩ => ?_) he hpl
 subst ev
 cases r1 with
 | @cons _ u0 _ ur ra rw' =>
   obtain rfl:u0=Value.ref a:=ra
   have hlen:ur.length<=sizeLine:=by
    rw [← Paired.length rw',sizeLine_eq]
    omega
   exact oinit_ok T I1 ea hlen λs' J=>⟨.non,H1,J,rfl,q⟩
end
def spXI (K:PySem.W.Frag) (C:Addr) (f:Str):Sp:=λvs H Q E=>∃ a v,vs=[.ref a,v]/\OexC K C/\PySem.W.findIn K (.ref C) f=some none/\H a=some (exo a C none) /\
 ∀ dx,H dx=none->dx≠a->Q .non (upd (upd H dx (exd dx [(f,v)])) a (exo a C (some dx)))
section
variable {P:Program} {w:World} {K:PySem.W.Frag} {mg:Str->Option Value} {base:Heap}
theorem xi_ok {x qual f nm:Str} {st:Stmt} {fI CW C:Addr} {fd:FuncData} {k:Nat} (F:Fun K x qual st fI fd) (S:FnScope ["self",nm] ["self",nm] (defScope st))
 (hb:∀ cdv A outer s H E,∃ m:Str,PSs (cxOf (L2.CX P w) P w K mg base ["self",nm] qual (defScope st) fI cdv A outer s H E) (defBody st) (tSeq (tDrop (tVeI K (tCons (tVar 0) (tCons (tC (.str m)) tNil)))) (tOst K f (tVar 0) (tVar 1)))) :
 FnOk P w K mg base (L2.CX P w) (k+1) fI fd ["self",nm] (spXI K C f):=by
 have key:∀ (m:Str) (H:Hp) (vs:List V) (Q:VK) (E:XK),spXI K C f vs H Q E->(tSeq (tDrop (tVeI K (tCons (tVar 0) (tCons (tC (.str m)) tNil)))) (tOst K f (tVar 0) (tVar 1))) { nx:=λ_ H'=>Q .non H',rt:=Q } (start ["self",nm] vs) H:=by
  rintro m H vs Q E ⟨a,v,rfl,T,hno,ea,q⟩
  refine ⟨.ref a,rfl,a,C,[.str m],rfl,(by show 1<=1000; decide),T,ea,?_⟩
  refine ⟨v,rfl,.ref a,rfl,a,C,rfl,T,hno,.inl ⟨ea,λdx n ne=>q dx n ne⟩⟩
 refine F.okX S (λvs H Q E h=>by
  obtain ⟨a,v,rfl,_⟩:=h
  rfl) (λcdv A outer s H vs Q E hr h => ?_)
 obtain ⟨m,hb⟩:=hb cdv A outer s H E
 exact ⟨_,hb,key _ H vs Q E h⟩
end
def XFd (P:Program) (w:World) (K:PySem.W.Frag) (mg:Str->Option Value) (base:Heap) (k:Nat) (x f:Str):Prop :=
 OexC K (He.ga K x)/\PySem.W.findIn K (.ref (He.ga K x)) f=some none/\∃ fI fd ps,PySem.W.findIn K (.ref (He.ga K x)) "__init__" = some (some (.ref fI))/\PySem.W.typeIn K (.ref fI)=some (.type "function") /\
  FnOk P w K mg base (L2.CX P w) k fI fd ps (spXI K (He.ga K x) f)/\Binds K fd ps []
def zcz (x f:Str) (w:WE):WS:=λE e=>w e (λm e1=>(∃ v0,zc5 m.d=some v0)/\E.ex ⟨x,some (f,m.d)⟩ e1) E.ex
theorem Sep.freshX {K:PySem.W.Frag} {H:Hp} {L:List (V×M)} {p:Addr} {o:HO} (h:Sep K H L) (n:H p=none):Sep K (upd H p o) L:=by
 obtain ⟨F,nd,q⟩:=h
 refine ⟨F,nd,q.fresh n (.of λa u e => ?_)⟩
 by_cases z:a∈F
 ·rw [zgN z] at e
  cases e
 ·rw [zep z] at e ⊢
  rw [upd_ne (ne_of_none e n)]
  exact e
section
variable {y:Y} {κ:List (Nat×V)} {pos p p3:Pos} {NS NP:List Str} {a:Expr} {w:WE}
theorem zvw {x f:Str} {k:Nat} (xs:Xs y.X.K y.X.mg y.xr NS NP) (hn:NS.contains x=true) (F:XFd y.X.prog y.X.w y.X.K y.X.mg y.X.base k x f) (hr:Room (k+1) y.X.A) (ha:SE y a w) (hc:y.X.calm=true:=by rfl)
 (hx:Passes (L2.CX y.X.prog y.X.w) y.X (λ_ _ _=>False)) (tk:Takes y.X y.W:=by exact takes_of rfl rfl rfl rfl) (hg:Gl y.X x:=by rfl) (hdb:(x==("__debug__" : Str))=false:=by decide)
 (he:starEach [a] y.X.env=(false,eval a y.X.env)::starEach [] y.X.env:=by rfl) (hpl:(backTo p3 (starEach [] y.X.env)).any (·.1)=false:=by rfl) :
 SS y κ (.Raise (some (.Call (.Name x p) [a] [] p3)) none pos) (zcz x f w) where
 run:=by
  obtain ⟨T,hno,fI,fd,ps,iC,tI,F1,hb⟩:=F
  refine zdW (ps_raise hc tk (pmk_oex (dvs:=[]) (ds:=[]) T iC tI F1 hr hb .nil hx hg (xs.at_ x hn) (pa_cons ha.run pa_nil he) hdb he hpl)) λD σ H ⟨e,P,hk,h0,q⟩ => ?_
  refine ⟨e,P,h0,ha.mono _ _ _ _ _ (λm e1 q v H1 o => ?_) (λx' e1 q c d H' r o=>q σ c d H' hk r o) q⟩
  obtain ⟨⟨v0,hv⟩,q⟩:=q
  obtain ⟨G,g⟩:=o.2.opn
  obtain ⟨F0,w0⟩:=g.own (v,m) (yag _ yaa)
  have ev:v=v0:=zaY w0 hv
  refine ⟨by show 1<=1000; decide,λa0 n0=>⟨a0,v,rfl,T,hno,upd_same,λdx n1 ne=>⟨rfl,dx,[(f,v)],upd_same,?_,?_,?_⟩⟩⟩
  ·rw [upd_ne ne,upd_same]
  ·rwa [upd_ne ne] at n1
  ·have n2:H1 dx=none:=by rwa [upd_ne ne] at n1
   have eH:upd (del (upd (upd (upd H1 a0 (exo a0 (He.ga y.X.K x) none)) dx (exd dx [(f,v)])) a0 (exo a0 (He.ga y.X.K x) (some dx))) a0) dx (.xd [(f,v)])=upd H1 dx (.xd [(f,v)]):=by
    funext b
    by_cases z:b=dx
    ·rw [z,upd_same,upd_same]
    ·rw [upd_ne z,upd_ne z]
     by_cases z2:b=a0
     ·rw [z2,del_same,n0]
     ·rw [del_ne z2,upd_ne z2,upd_ne z,upd_ne z2]
   rw [eH]
   refine q σ _ (some dx) _ hk ?_ ?_
   ·rw [xs.rel]
    exact ⟨hn,rfl,dx,v,rfl,upd_same,by rw [ev]; exact hv⟩
   ·exact ⟨o.1,(o.pop).2.freshX n2⟩
 mono:=λE E' e l q=>ha.mono _ _ _ _ _ (λm e1 q=>⟨q.1,l.ex _ _ q.2⟩) l.ex q
end
end VW
namespace VW
open PySem PySem.Spec PyProof.Rows L2 R
abbrev Hd:Type:=Addr×Option Addr
def hdD (h:Hd) (x:Xn):D:=match h.2,x.fld with
 | some dd,some (f,v)=>(match zc5 v with
   | some w=>.atx h.1 dd (.xd [(f,w)])
   | none=>.adr h.1)
 | _,_=>.adr h.1
def okHd (h:Hd) (x:Xn):Prop:=match x.fld with
 | none=>h.2=none
 | some (f,v)=>∃ dd w,h.2=some dd/\zc5 v=some w
structure InF (K:PySem.W.Frag) (NS:List Str) (x:Xn) (a:Addr) (oe:Obj):Prop where
 ns:NS.contains x.cls=true
 cls:oe.cls=.ref (He.ga K x.cls)
 hd:okHd (a,oe.dict) x
 fld:∃ vs,oe.data=.fields vs
section
variable {K:PySem.W.Frag} {G H:Hp}
theorem Own0.noXd {v:V} {m:FM} {F:List Addr} (h:Own0 K G H v m F):∀ a∈F,∀ fs,H a≠some (.xd fs):=by
 intro a z vs e
 cases h with
 | fz _=>cases z
 | lst h _=>cases yar.mp z; rw [h] at e; cases e
 | dK h _=>cases yar.mp z; rw [h] at e; cases e
 | dT h _=>cases yar.mp z; rw [h] at e; cases e
theorem HeldsF.noXd {L:List (Str×V×FM)} {F:List Addr} (h:HeldsF K G H L F):∀ a∈F,∀ fs,H a≠some (.xd fs):=by
 induction h with
 | nil=>exact λ_ z=>nomatch z
 | cons h r ih=>exact λa z=>(yas.mp z).elim (h.noXd a) (ih a)
theorem Helds.noXd {L:List (V×M)} {F:List Addr} (h:Helds K G H L F):∀ a∈F,∀ fs,H a≠some (.xd fs):=by
 induction h with
 | nil=>exact λ_ z=>nomatch z
 | cons h r ih =>
   intro a z vs e
   rcases yas.mp z with z | z
   ·cases h with
    | fz _=>cases z
    | lst h _=>cases yar.mp z; rw [h] at e; cases e
    | dK h _=>cases yar.mp z; rw [h] at e; cases e
    | dT h _=>cases yar.mp z; rw [h] at e; cases e
    | lk h _=>cases yar.mp z; rw [h] at e; cases e
    | bx _ h k r =>
      rcases yao.mp z with z | z
      ·cases z; rw [h] at e; cases e; cases k
      ·exact r.noXd a z vs e
    | dq h =>
      rcases h.what a z with ⟨ws,q⟩ | ⟨o,ws,q⟩<;>(rw [q] at e; cases e)
    | dA h _=>cases yar.mp z; rw [h] at e; cases e
    | ob h r =>
      rcases yao.mp z with z | z
      ·cases z; rw [h] at e; cases e
      ·exact r.noXd a z vs e
   ·exact ih a z vs e
theorem Sep.opnX {L:List (V×M)} (h:Sep K H L):∃ G,Opn K H L G/\∀ b fs,H b=some (.xd fs)->G b=some (.xd fs):=h.elim λF q=>⟨_,Sep.opnF q.1 q.2,λb fs e=>by
 rw [zep λz=>q.2.noXd b z fs e]
 exact e⟩
def stHd (H:Hp) (h:Hd) (x:Xn):Prop:=match x.fld with
 | none=>h.2=none
 | some (f,v)=>∃ dd w,h.2=some dd/\H dd=some (.xd [(f,w)])/\zc5 v=some w
theorem stHd.ok {h:Hd} {x:Xn} (s:stHd H h x):okHd h x:=by
 unfold stHd at s
 unfold okHd
 split at s
 ·exact s
 ·obtain ⟨dd,w,h1,_,h2⟩:=s
  exact ⟨dd,w,h1,h2⟩
theorem zub {L:List (V×M)} {h:Hd} {x:Xn} (s:Sep K H L) (z:stHd H h x):Sep K H ((.ref h.1,.fz (hdD h x))::L):=by
 obtain ⟨G,g,gx⟩:=s.opnX
 refine g.res _ _ _ (.same ?_)
 unfold stHd at z
 unfold hdD
 split at z
 ·next e =>
  rw [z]
  exact .adr _
 ·next f v e =>
  obtain ⟨dd,w,h1,h2,h3⟩:=z
  rw [h1,e]
  dsimp only
  rw [h3]
  exact .atx (gx _ _ h2) rfl
theorem ok_hd {σ:L2.St} {e:En} {P:List (V×M)} {h:Hd} {x:Xn} (o:Ok K H σ e P) (z:stHd H h x):Ok K H σ e ((.ref h.1,.fz (hdD h x))::P) :=
 ⟨o.1,(zub o.2 z).perm yae.symm⟩
theorem rep_hd {v:V} {h:Hd} {x:Xn} (r:Rep K G v (hdD h x)) (k:okHd h x) (ex:Ex G H):v=.ref h.1/\stHd H h x:=by
 unfold okHd at k
 unfold hdD at r
 unfold stHd
 split at k
 ·next e =>
  rw [k] at r
  cases r
  exact ⟨rfl,k⟩
 ·next f u e =>
  obtain ⟨dd,w,h1,h2⟩:=k
  rw [h1,e] at r
  dsimp only at r
  rw [h2] at r
  cases r with
  | atx g n =>
    exact ⟨rfl,dd,w,h1,ex.keep g n,h2⟩
theorem Ok.hd {σ:L2.St} {e:En} {P:List (V×M)} {i:Nat} {h:Hd} {x:Xn} (o:Ok K H σ e P) (k:okHd h x) (h1:e[i]?=some (some (.fz (hdD h x)))):σ[i]?=some (some (.ref h.1))/\stHd H h x:=by
 obtain ⟨v,e2,m⟩:=o.peek h1
 obtain ⟨G,g⟩:=o.2.opn
 obtain ⟨F,w⟩:=g.own _ m
 cases w with
 | fz w =>
   obtain ⟨rfl,z⟩:=rep_hd w k g.ex
   exact ⟨e2,z⟩
end
def rIsF (K:PySem.W.Frag) (D a:Addr) (dd:Option Addr):List V->Hp->VK->Prop:=λxs H Q=>∃ (c:V) (cv:Value) (b:Bool),xs=[.ref a,c]/\(∀ u,RelV c u->u=cv)/\PySem.W.kitOne K (.ref D) cv=some b/\(∀ q,dd=some q->∃ fs,H q=some (.xd fs))/\Q (.bl b) H
theorem zoh {X:Cx} {a D:Addr} {oe:Obj} (hp:(a,oe)∈X.pn) (C:ExcC X.K D) (hz:oe.cls=.ref D) (hf:∃ vs,oe.data=.fields vs):CallR X (.builtin "isinstance") (rIsF X.K D a oe.dict):=by
 intro pins s σ H xs us Q I r h
 obtain ⟨c,cv,b,rfl,hcv,e,hd,q⟩:=h
 cases r with
 | cons rx rr =>
   cases rr with
   | cons rt rr =>
     cases rr
     cases rx
     have ec:=hcv _ rt
     subst ec
     obtain ⟨hget,_⟩:=I.pin (a,oe) (yas.mpr (.inl hp))
     obtain ⟨vs,hv⟩:=hf
     obtain ⟨od,J⟩:∃ od,PySem.W.InstAt s.heap a oe D od:=by
      cases ed:oe.dict with
      | none=>exact ⟨none,hget,hz,by unfold PySem.W.notCls; rw [hv]<;>rfl,by rw [ed]; trivial⟩
      | some q =>
        obtain ⟨fs,hq⟩:=hd q ed
        obtain ⟨mA,hns,hr⟩:=(show ObjOk X.prog X.w H s.heap q (.xd fs) from I.hok q _ hq)
        obtain ⟨o2,ho,hl⟩:=lookIn_ns hns
        exact ⟨some o2,hget,hz,by unfold PySem.W.notCls; rw [hv]<;>rfl,by rw [ed]; exact ho⟩
     have hcd:(PySem.W.clsIn X.K D).isSome=true:=by
      have z:=C.hd
      unfold PySem.W.hasDictIn at z
      cases e3:PySem.W.clsIn X.K D with
      | none=>rw [e3] at z; cases z
      | some _=>rfl
     exact PySem.W.kia_one (PySem.W.kitx_exc hcd C.hg C.hk C.hs C.ha C.hn C.ht C.hm) I.kIn J e (λz=>nomatch z) λtk=>⟨.bl b,H,I.kept (t':=tk) λ_ _ z=>z,rfl,q⟩
def wIsF (i:Nat) (h:Hd) (x:Xn) (n:Str):WE:=λe Q _=>e[i]?=some (some (.fz (hdD h x)))/\Q (.fz (.bl (subX x.cls n))) e
theorem zl0 {i:Nat} {h:Hd} {x:Xn} {n:Str}:zcA (wIsF i h x n):=λe Q Q' X X' hq hx q=>⟨q.1,hq _ _ q.2⟩
theorem stHd.dct {H:Hp} {h:Hd} {x:Xn} (s:stHd H h x):∀ q,h.2=some q->∃ fs,H q=some (.xd fs):=by
 intro q z
 unfold stHd at s
 split at s
 ·rw [s] at z; cases z
 ·obtain ⟨dd,w,h1,h2,_⟩:=s
  rw [h1] at z
  cases z
  exact ⟨_,h2⟩
def wAtF (i:Nat) (h:Hd) (x:Xn) (f:Str):WE:=λe Q _=>e[i]?=some (some (.fz (hdD h x)))/\∃ v,x.fld=some (f,v)/\Q (.fz v) e
theorem zjb {i:Nat} {h:Hd} {x:Xn} {f:Str}:zcA (wAtF i h x f):=λe Q Q' X X' hq hx ⟨q,v,q1,q2⟩=>⟨q,v,q1,hq _ _ q2⟩
theorem pe_xfP {X:Cx} {a C:Addr} {oe:Obj} {cls:Value} {d:Option Addr} {e:Expr} {te:TE} {pos:Pos} {n:Str} (T:XfC X.K C) (hno:PySem.W.findIn X.K (.ref C) n=some none)
 (hpn:(a,oe)∈X.pn) (hz:Zc cls d oe) (hf:∃ vs,oe.data=.fields vs) (he:PE X e te) (hb:attributeBase e n X.env (eval e X.env)=eval e X.env:=by rfl) :
 PE X (.Attribute e n pos) (tXf a cls d C n te):=by
 refine ⟨λpins s σ H Q I h => ?_⟩
 refine attr_of hb (thn (he.run pins s σ H _ I h) λu s1 hh => ?_)
 obtain ⟨x,H1,I1,rx,ex,ec,dd,fs,v,ed,ea,l,q⟩:=hh
 subst ex
 obtain rfl:u=Value.ref a:=rx
 subst ec
 subst ed
 obtain ⟨ha,_⟩:=I1.pin (a,oe) (yan _ hpn)
 obtain ⟨vs,hd⟩:=hf
 have hx:ObjOk X.prog X.w H1 s1.heap dd (.xd fs):=I1.hok dd _ ea
 obtain ⟨mA,hns,hr⟩:=hx
 obtain ⟨od,ho,hl⟩:=lookIn_ns hns
 obtain ⟨u,hu,ru⟩:=RelO.some_of (v:=v) (o:=mA n) (by rw [← l]; exact hr n)
 have J:PySem.W.InstAt s1.heap a oe C (some od):=⟨ha,hz.1,by unfold PySem.W.notCls; rw [hd]<;>rfl,by rw [hz.2]; exact ho⟩
 exact HandSPX.exc_get I1.kIn J T.ga T.gg T.exC (PySem.W.findObj_own T.hdC hno rfl (by rw [hl,hu])) (handed_of ru) ⟨v,H1,I1.tok _,ru,q⟩
section
variable {y:Y} {κ:List (Nat×V)} {pos p p2 p3:Pos} {NS NP:List Str} {i:Nat} {a:Addr} {x:Xn} {oe:Obj} {nm n:Str}
theorem xisF (xs:Xs y.X.K y.X.mg y.xr NS NP) (hm:y.X.mg "isinstance" = none) (hpn:(a,oe)∈y.X.pn) (h:InF y.X.K NS x a oe) (hn:NS.contains n=true) (hN:y.X.N[i]?=some nm:=by rfl)
 (hv:Vis y.X.env.scope nm:=by first | exact .inl rfl | exact .inr (.inl rfl) | exact .inr (.inr rfl)) (hd:(nm==("__debug__" : Str))=false:=by decide) (hcd:(nm==("__classdict__" : Str))=false:=by decide)
 (hgi:Gl y.X "isinstance" := by rfl) (hgn:Gl y.X n:=by rfl) (hdn:(n==("__debug__" : Str))=false:=by decide)
 (he:starEach [.Name nm p2,.Name n p3] y.X.env=(false,eval (.Name nm p2) y.X.env)::starEach [.Name n p3] y.X.env:=by rfl) (hpl:(backTo pos (starEach [.Name n p3] y.X.env)).any (·.1)=false:=by rfl)
 (he2:starEach [.Name n p3] y.X.env=(false,eval (.Name n p3) y.X.env)::starEach [] y.X.env:=by rfl) :
 SE y (.Call (.Name "isinstance" p) [.Name nm p2,.Name n p3] [] pos) (wIsF i (a,oe.dict) x n) where
 run:=zbH (pe_callB (zoh hpn (xs.xc _ h.ns) h.cls h.fld) hgi hm boot_isinstance (pa_cons (pe_var hN hv hd hcd) (pa_cons (pe_glob (v:=.ref (He.ga y.X.K n)) hgn (xs.at_ n hn) rfl hdn) pa_nil he2) he) (by decide) (by decide) he hpl) λσ H Q ⟨e,P,h0,h1,q⟩ =>
  ⟨.ref a,(h0.hd h.hd h1).1,.ref (He.ga y.X.K n),.ref (He.ga y.X.K n),subX x.cls n,rfl,λu r=>r,xs.kit _ _ h.ns hn,(h0.hd h.hd h1).2.dct,q _ _ (zkJ _ h0)⟩
 mono:=zl0
theorem xisVF (xs:Xs y.X.K y.X.mg y.xr NS NP) (hm:y.X.mg "isinstance" = none) (hmv:y.X.mg "ValueError" = none) (hpn:(a,oe)∈y.X.pn) (h:InF y.X.K NS x a oe) (hN:y.X.N[i]?=some nm:=by rfl)
 (hv:Vis y.X.env.scope nm:=by first | exact .inl rfl | exact .inr (.inl rfl) | exact .inr (.inr rfl)) (hd:(nm==("__debug__" : Str))=false:=by decide) (hcd:(nm==("__classdict__" : Str))=false:=by decide)
 (hgi:Gl y.X "isinstance" := by rfl) (hgn:Gl y.X "ValueError" := by rfl)
 (he:starEach [.Name nm p2,.Name "ValueError" p3] y.X.env=(false,eval (.Name nm p2) y.X.env)::starEach [.Name "ValueError" p3] y.X.env:=by rfl) (hpl:(backTo pos (starEach [.Name "ValueError" p3] y.X.env)).any (·.1)=false:=by rfl)
 (he2:starEach [.Name "ValueError" p3] y.X.env=(false,eval (.Name "ValueError" p3) y.X.env)::starEach [] y.X.env:=by rfl) :
 SE y (.Call (.Name "isinstance" p) [.Name nm p2,.Name "ValueError" p3] [] pos) (wIsF i (a,oe.dict) x "ValueError") where
 run:=zbH (pe_callB (zoh hpn (xs.xc _ h.ns) h.cls h.fld) hgi hm boot_isinstance (pa_cons (pe_var hN hv hd hcd) (pa_cons (pe_bltn hgn hmv PyProof.Rows.Boot.«ValueError» (v:=.ty "ValueError") rfl (by decide) (by decide)) pa_nil he2) he) (by decide) (by decide) he hpl) λσ H Q ⟨e,P,h0,h1,q⟩ =>
  ⟨.ref a,(h0.hd h.hd h1).1,.ty "ValueError",.type "ValueError",subX x.cls "ValueError",rfl,λu r=>r,by
   rw [xs.kve _ h.ns]
   simp [subX],(h0.hd h.hd h1).2.dct,q _ _ (zkJ _ h0)⟩
 mono:=zl0
theorem xatF {f:Str} (xs:Xs y.X.K y.X.mg y.xr NS NP) (T:XfC y.X.K (He.ga y.X.K x.cls)) (hno:PySem.W.findIn y.X.K (.ref (He.ga y.X.K x.cls)) f=some none) (hpn:(a,oe)∈y.X.pn) (h:InF y.X.K NS x a oe) (hN:y.X.N[i]?=some nm:=by rfl)
 (hv:Vis y.X.env.scope nm:=by first | exact .inl rfl | exact .inr (.inl rfl) | exact .inr (.inr rfl)) (hd:(nm==("__debug__" : Str))=false:=by decide) (hcd:(nm==("__classdict__" : Str))=false:=by decide)
 (hb:attributeBase (.Name nm p) f y.X.env (eval (.Name nm p) y.X.env)=eval (.Name nm p) y.X.env:=by rfl) :
 SE y (.Attribute (.Name nm p) f pos) (wAtF i (a,oe.dict) x f) where
 run:=zbH (pe_xfP T hno hpn ⟨h.cls,rfl⟩ h.fld (pe_var hN hv hd hcd) hb) λσ H Q ⟨e,P,h0,h1,v,hf,q⟩=>by
  obtain ⟨z1,z2⟩:=h0.hd h.hd h1
  refine ⟨.ref a,z1,rfl,rfl,?_⟩
  unfold stHd at z2
  rw [hf] at z2
  obtain ⟨dd,w,e1,e2,e3⟩:=z2
  refine ⟨dd,_,w,e1,e2,by simp,q w H ⟨h0.1,?_⟩⟩
  obtain ⟨G,g⟩:=h0.2.opn
  exact ((g.res _ _ _ (.same (ziU e3))).perm yae.symm)
 mono:=zjb
end
def spF (K:PySem.W.Frag) (fn:FnX) (x:Xn) (h:Hd):Sp:=λvs H Q _=>vs=[.ref h.1]/\∃ P,Sep K H ((.ref h.1,.fz (hdD h x))::P)/\fn.sp x (λm=>∀ v H',Sep K H' ((v,m)::P)->Q v H')
def CalF (P:Program) (w:World) (K:PySem.W.Frag) (mg:Str->Option Value) (base:Heap) (NS:List Str) (k:Nat) (f:Str) (fn:FnX):Prop :=
 zqJ fn/\∃ fa fd ps,(∀ x d,FnE P w K mg base (L2.CX P w) k fa fd ps (λp=>InF K NS x p.1 p.2/\p.2.dict=d) (λa=>spF K fn x (a,d)))/\mg f=some (.ref fa)/\PySem.W.keepIn K (.ref fa)=true/\Binds K fd ps []
def zkm (fn:FnX) (i:Nat) (h:Hd) (x:Xn):WE:=λe Q _=>e[i]?=some (some (.fz (hdD h x)))/\fn.sp x (λm=>Q m e)
theorem ze4 {fn:FnX} {i:Nat} {a:Hd} {x:Xn} (h:zqJ fn):zcA (zkm fn i a x):=λe Q Q' X X' hq hx q=>⟨q.1,h _ _ _ (λm z=>hq _ _ z) q.2⟩
section
variable {y:Y} {κ:List (Nat×V)} {pos p2 p3:Pos} {NS NP:List Str} {i:Nat} {a:Addr} {x:Xn} {oe:Obj} {nm f:Str}
theorem xcF {fn:FnX} {k:Nat} (F:CalF y.X.prog y.X.w y.X.K y.X.mg y.X.base NS k f fn) (hr:L2H.RoomH k y.X.A) (hpn:(a,oe)∈y.X.pn) (h:InF y.X.K NS x a oe) (hN:y.X.N[i]?=some nm:=by rfl)
 (hv:Vis y.X.env.scope nm:=by first | exact .inl rfl | exact .inr (.inl rfl) | exact .inr (.inr rfl)) (hd:(nm==("__debug__" : Str))=false:=by decide) (hcd:(nm==("__classdict__" : Str))=false:=by decide)
 (hg:Gl y.X f:=by rfl) (hdb:(f==("__debug__" : Str))=false:=by decide)
 (he:starEach [.Name nm p2] y.X.env=(false,eval (.Name nm p2) y.X.env)::starEach [] y.X.env:=by rfl) (hpl:(backTo pos (starEach [] y.X.env)).any (·.1)=false:=by rfl) :
 SE y (.Call (.Name f p3) [.Name nm p2] [] pos) (zkm fn i (a,oe.dict) x):=by
 obtain ⟨hmx,fa,fd,ps,F,hm,hk,hb⟩:=F
 refine ⟨⟨λpins s σ H Q I ⟨e,P,h0,h1,q⟩ => ?_⟩,ze4 hmx⟩
 refine wpAny_Call_Name_kw (ld_glob I hg hm ?_ hdb)
 refine PySem.W.callWith_K (h₀:=y.X.base) I.ok.mod.kin hk (thn ((pa_cons (pe_var hN hv hd hcd) pa_nil he:PA y.X [.Name nm p2] _).run pos pins s σ H (λvs H1=>vs=[.ref a]/\H1=H) I ⟨.ref a,(h0.hd h.hd h1).1,rfl,rfl⟩) λus s1 ⟨vs,H1,I1,r,ev,eH⟩=>⟨I1.kIn,?_⟩) he hpl
 subst ev eH
 have hsp:spF y.X.K fn x (a,oe.dict) [.ref a] H1 Q (λ_ _ _=>False):=⟨rfl,prs σ e++P,zub h0.2 (h0.hd h.hd h1).2,hmx _ _ _ (λm z v H' s=>z v H' ⟨h0.1,s.perm yae.symm⟩) q⟩
 have hl:us.length=ps.length:=by rw [← r.length]; exact (F x oe.dict).len _ _ _ _ _ hsp
 have b:=hb s1 us I1.kIn (by rw [yaE]; exact hl)
 rw [yaE] at b
 have P1:=I1.pin (a,oe) (yan _ hpn)
 have hpin:L2H.PinOk y.X.stack H1 s1 (a,oe):=⟨P1.1,P1.2.1,λhm=>(yao.mp (I1.stkSub a hm)).elim P1.2.2.1 P1.2.2.2.1,P1.2.2.2.2⟩
 refine wpAny_call (codeAny_mono ((F x oe.dict).run y.X.A y.X.stack s1 H1 ⟨us,[]⟩ us [.ref a] Q (λ_ _ _=>False) (a,oe) hr ⟨h,rfl⟩ hpin I1.env0 b r hsp) λr s' hq => ?_)
 cases r with
 | error e =>
   obtain ⟨_,_,_,_,_,_,_,_,_,_,_,_,z⟩:=hq
   exact z.elim
 | ok fl =>
   cases fl with
   | ret u=>exact I1.after hq
   | next=>exact False.elim hq
   | brk=>exact False.elim hq
   | cont=>exact False.elim hq
end
def wFnF (N:Nat) (wb:Hd->Xn->WS) (x:Xn) (Q:M->Prop):Prop:=∀ h,okHd h x->wb h x { nx:=λ_=>Q (.fz .non),rt:=λm _=>Q m,bk:=λ_=>False,ct:=λ_=>False,ex:=λ_ _=>False } (some (.fz (hdD h x))::List.replicate (N-1) none)
theorem zvx {P:Program} {w:World} {K:PySem.W.Frag} {mg:Str->Option Value} {base:Heap} {xr:Xn->Value->Option Addr->Hp->Prop} {NS:List Str} {f:Str} {st:Stmt} {fa:Addr} {fd:FuncData} {N:List Str} {pr:Str} {k:Nat} {wb:Hd->Xn->WS} {fn:FnX}
 (F:Fun K f f st fa fd) (hm:mg f=some (.ref fa)) (hb:Binds K fd [pr] []) (S:FnScope N [pr] (defScope st)) (hmx:zqJ fn)
 (hb2:∀ cdv A outer s H E (p:Addr×Obj) x,InF K NS x p.1 p.2->L2H.RoomH k (A.deeper (envOfC f (defScope st) s.heap.objs.size fa cdv))->SSs (yE P w K mg base xr N f (defScope st) fa cdv A outer s H E p) [] (defBody st) (wb (p.1,p.2.dict) x))
 (h:∀ x Q,fn.sp x Q->wFnF N.length wb x Q):CalF P w K mg base NS (k+1) f fn:=by
 obtain ⟨⟨oc,od,kV,doc,pm,an,cdv,ct,osl,rfl,lk,hcd⟩,hkp⟩:=F
 refine ⟨hmx,fa,_,[pr],λx d=>fn_ofE lk hcd S (λa vs H Q E h=>by rw [h.1]; rfl) λA outer s H vs Q E p ⟨good,hd⟩ hr hsp => ?_,hm,hkp,hb⟩
 subst hd
 obtain ⟨rfl,R,hR,q⟩:=hsp
 have B:=hb2 cdv A outer s H E p x good hr
 refine ⟨_,B.run,?_⟩
 have q:=h x _ q (p.1,p.2.dict) good.hd
 obtain ⟨p1,p2⟩:=zgO (vs:=[V.ref p.1]) (ms:=[M.fz (hdD (p.1,p.2.dict) x)]) (N.length-1) rfl
 have ok:Ok K H (start N [V.ref p.1]) (some (.fz (hdD (p.1,p.2.dict) x))::List.replicate (N.length-1) none) R:=by
  refine ⟨p2,?_⟩
  show Sep K H (prs ([V.ref p.1].map some++List.replicate (N.length-1) none) ([M.fz (hdD (p.1,p.2.dict) x)].map some++List.replicate (N.length-1) none)++R)
  rw [p1]
  exact hR
 refine ⟨_,R,λ_ z=>(nomatch z),ok,?_⟩
 refine B.mono { nx:=λ_=>_,rt:=λm _=>_,bk:=λ_=>False,ct:=λ_=>False,ex:=λ_ _=>False } _ _ ⟨λe' q σ' H' hk o => ?_,λm e' q σ' v H' hk o => ?_,λ_ z=>z.elim,λ_ z=>z.elim,λx e' z=>z.elim⟩ q
 ·refine q .non H' ?_
  obtain ⟨G,g⟩:=o.2.opn
  exact (g.res _ _ _ (.same .non)).perm (yae.symm.trans (List.Perm.refl _)) |>.right
 ·exact q v H' o.zero
section
variable {β:Type} {P:β->Prop} {XP:Xn->Prop}
theorem k_hdlF {x:Xn} {n:Str} {r1:R β} {A:Hd->Prop} {B:Prop} (h:(if subX x.cls n=true then r1 else .ex x).post P XP) (q:∀ a,r1.post P XP->A a) (hx:XP x->B):if subX x.cls n=true then ∀ a,okHd a x->A a else B:=by
 by_cases z:subX x.cls n=true
 ·rw [yaM z] at h ⊢
  exact λa _=>q a h
 ·rw [yaH z] at h ⊢
  exact hx h
theorem zjU {i:Nat} {a:Hd} {x:Xn} {n:Str} {e:En} {Q:M->En->Prop} {X:XQ} (h1:e[i]?=some (some (.fz (hdD a x)))) (q:Q (.fz (.bl (subX x.cls n))) e):wIsF i a x n e Q X:=⟨h1,q⟩
def nAt (f:Str) (x:Xn):R D:=match x.fld with
 | some (g,v)=>if g=f then .ok v else .no
 | none=>.no
theorem k_atF {i:Nat} {a:Hd} {x:Xn} {g:Str} {e:En} {Q:M->En->Prop} {X:XQ} {f:D->R β} (h:((nAt g x).bind f).post P XP) (h1:e[i]?=some (some (.fz (hdD a x)))) (q:∀ v,(f v).post P XP->Q (.fz v) e):wAtF i a x g e Q X:=by
 unfold nAt at h
 split at h
 ·next g' v e2 =>
  by_cases z:g'=g
  ·rw [yaM z] at h
   exact ⟨h1,v,by rw [e2,z],q v h⟩
  ·rw [yaH z] at h
   exact h.elim
 ·exact h.elim
theorem zna {fn:FnX} {i:Nat} {a:Hd} {x:Xn} {e:En} {Q:M->En->Prop} {X:XQ} (h1:e[i]?=some (some (.fz (hdD a x)))) (q:fn.sp x (λm=>Q m e)):zkm fn i a x e Q X:=⟨h1,q⟩
theorem zvy {N:Nat} {wb:Hd->Xn->WS} {x:Xn} {Q:M->Prop} (q:∀ (a:Hd) (E:WEnds),(∀ m e',Q m->E.rt m e')->(∀ e',Q (.fz .non)->E.nx e')->(∀ x e',(λ_:Xn=>False) x->E.ex x e')->wb a x E (some (.fz (hdD a x))::List.replicate (N-1) none)):wFnF N wb x Q :=
 λa _=>q a _ (λ_ _ h=>h) (λ_ h=>h) (λ_ _ h=>h)
end
theorem CalF.up {P:Program} {w:World} {K:PySem.W.Frag} {mg:Str->Option Value} {base:Heap} {NS:List Str} {k k':Nat} {f:Str} {fn:FnX} (h:CalF P w K mg base NS k f fn) (hk:k<=k'):CalF P w K mg base NS k' f fn:=by
 obtain ⟨hx,fa,fd,ps,F,hm,kp,hb⟩:=h
 exact ⟨hx,fa,fd,ps,λx d=>⟨(F x d).len,λA outer s H args us vs Q E p hr=>(F x d).run A outer s H args us vs Q E p (hr.mono hk)⟩,hm,kp,hb⟩
theorem oc_of {K:PySem.W.Frag} {C:Addr} (q:ocB K C=true):∃ nm q N bs bm sn sub ab col dd k0 k1 k2 k3 k5,K.lookup C=some (PySem.excClassObj nm q C N bs bm true sn sub ab col dd k0 k1 k2 k3 k5 "ValueError.__new__")/\PySem.HandSPX.refsVE bm=true:=by
 unfold ocB at q
 split at q
 ·rename_i dd cd sl ho
  split at q
  ·rename_i C' bm k0 k1 k2 k3 n k5 hm hs
   obtain ⟨q1,q⟩:=He.ba q
   obtain ⟨q2,q⟩:=He.ba q
   obtain ⟨q3,q⟩:=He.ba q
   obtain ⟨q4,q5⟩:=He.ba q
   have e1:=yai q1
   have e2:=yai q2
   have e3:cd.hasDel=false:=by
    cases e:cd.hasDel with
    | false=>rfl
    | true=>rw [e] at q3; cases q3
   subst e1 e2
   obtain ⟨nm,bs,mro,ns,qn,hd,sn,sub,ab,col,del⟩:=cd
   dsimp only at hm e3 q4
   subst hm e3 q4
   have hsl:sl = #[k0,k1,k2,k3,some (.builtin "ValueError.__new__"),k5]:=by
    obtain ⟨l⟩:=sl
    simp only at hs
    rw [hs]
   subst hsl
   exact ⟨nm,qn,ns,bs,bm,sn,sub,ab,col,dd,k0,k1,k2,k3,k5,ho,q5⟩
  ·cases q
 ·cases q
theorem ba_of {K:PySem.W.Frag} {h:Heap} {mg:Str->Option Value} (X:K.In h) (G:h.Ns mainGlobals mg) (q:baB K=true):BaI K mg (He.ga K "WeaveError"):=by
 unfold baB at q
 obtain ⟨q1,q⟩:=He.ba q
 obtain ⟨q2,q⟩:=He.ba q
 obtain ⟨q3,q⟩:=He.ba q
 refine ⟨ya0 X G q1,⟨q2,ycz q3⟩,?_⟩
 split at q
 ·next n e=>rw [e,yai q]
 ·cases q
theorem xd_of {x f:Str} {K:PySem.W.Frag} (q:xdB x f K=true):OexC K (He.ga K x)/\PySem.W.findIn K (.ref (He.ga K x)) f=some none/\Meth K (He.ga K x) "__init__" (He.ma K (He.ga K x) "__init__"):=by
 unfold xdB at q
 obtain ⟨q1,q⟩:=He.ba q
 obtain ⟨q2,q⟩:=He.ba q
 obtain ⟨q3,q⟩:=He.ba q
 obtain ⟨q4,q⟩:=He.ba q
 obtain ⟨q5,q⟩:=He.ba q
 obtain ⟨q6,q7⟩:=He.ba q
 exact ⟨⟨oc_of q1,ycz q2,yai q3,yai q4,q5⟩,He.noat_ok q6,He.meth_ok q7⟩
def NoF (K:PySem.W.Frag) (NS FS:List Str):Prop:=∀ x f,NS.contains x=true->FS.contains f=true->PySem.W.findIn K (.ref (He.ga K x)) f=some none
theorem nf_of {NS FS:List Str} {K:PySem.W.Frag} (q:nfB NS FS K=true):NoF K NS FS:=λx f hx hf =>
 He.noat_ok (yam.mp (yam.mp q x (yaT.mp hx)) f (yaT.mp hf))
theorem zvz {NS NP FS:List Str} {XD:List (Str×Str)} {K:PySem.W.Frag} {h:Heap} {mg:Str->Option Value} (X:K.In h) (G:h.Ns mainGlobals mg) (b:xsFB NS NP FS XD K=true) :
 Xs K mg (xrT K NS) NS NP/\BaI K mg (He.ga K "WeaveError")/\NoF K NS FS/\∀ p∈XD,xdB p.1 p.2 K=true:=by
 unfold xsFB at b
 obtain ⟨b1,b⟩:=He.ba b
 obtain ⟨b2,b⟩:=He.ba b
 obtain ⟨b3,b4⟩:=He.ba b
 exact ⟨xsB_ok X G b1,ba_of X G b2,nf_of b3,λp hp=>yam.mp b4 p hp⟩
theorem zuc {P:Program} {w:World} {K:PySem.W.Frag} {mg:Str->Option Value} {base:Heap} {k:Nat} {x f nm:Str} {fd:FuncData} (q:xdB x f K=true)
 (F:FnOk P w K mg base (L2.CX P w) k (He.ma K (He.ga K x) "__init__") fd ["self",nm] (spXI K (He.ga K x) f)) (hb:Binds K fd ["self",nm] []):XFd P w K mg base k x f:=by
 obtain ⟨q1,q2,q3⟩:=xd_of q
 refine ⟨q1,q2,_,_,_,q3.at_,?_,F,hb⟩
 have z:=q3.fn
 unfold PySem.W.isFn at z
 exact yct.mp z
theorem XFd.up {P:Program} {w:World} {K:PySem.W.Frag} {mg:Str->Option Value} {base:Heap} {k k':Nat} {x f:Str} (h:XFd P w K mg base k x f) (hk:k<=k'):XFd P w K mg base k' x f:=by
 obtain ⟨h1,h2,fI,fd,ps,h3,h4,F,hb⟩:=h
 exact ⟨h1,h2,fI,fd,ps,h3,h4,⟨F.len,λA outer s H args us vs Q E hr=>F.run A outer s H args us vs Q E (hr.mono hk)⟩,hb⟩
section
variable {y:Y} {pos p:Pos} {NS NP FS:List Str} {i:Nat} {a:Addr} {x:Xn} {oe:Obj} {nm f:Str}
theorem xatN (xs:Xs y.X.K y.X.mg y.xr NS NP) (nf:NoF y.X.K NS FS) (hf:FS.contains f=true) (hpn:(a,oe)∈y.X.pn) (h:InF y.X.K NS x a oe) (hN:y.X.N[i]?=some nm:=by rfl)
 (hv:Vis y.X.env.scope nm:=by first | exact .inl rfl | exact .inr (.inl rfl) | exact .inr (.inr rfl)) (hd:(nm==("__debug__" : Str))=false:=by decide) (hcd:(nm==("__classdict__" : Str))=false:=by decide)
 (hb:attributeBase (.Name nm p) f y.X.env (eval (.Name nm p) y.X.env)=eval (.Name nm p) y.X.env:=by rfl) :
 SE y (.Attribute (.Name nm p) f pos) (wAtF i (a,oe.dict) x f) :=
 have C:=xs.xc _ h.ns
 xatF xs ⟨C.hg,C.hk,C.hs,C.hd⟩ (nf _ _ h.ns hf) hpn h hN hv hd hcd hb
end
def nPl (d:D):R Unit:=match zc5 d with
 | some _=>.ok ()
 | none=>.no
section
variable {β:Type} {P:β->Prop} {XP:Xn->Prop}
theorem k_pl {d:D} {f:Unit->R β} {A:Prop} (h:((nPl d).bind f).post P XP) (q:(f ()).post P XP->A):(∃ v,zc5 d=some v)/\A:=by
 unfold nPl at h
 split at h
 ·next v e=>exact ⟨⟨v,e⟩,q h⟩
 ·exact h.elim
theorem zqL {c f:Str} {w:WE} {E:WEnds} {e:En} (q:w e (λm e1=>(∃ v,zc5 m.d=some v)/\E.ex ⟨c,some (f,m.d)⟩ e1) E.ex):zcz c f w E e:=q
theorem zqM {x:Xn} {A:Prop} (h:((R.ex x:R β)).post P XP) (q:XP x->A):A:=q h
end
section
variable {K:PySem.W.Frag}
def zgq:M->OPN:=λm ms q=>one ms λa=>match m.d,a.d with
 | .str s,.str t=>(t.length==0)=false/\s.length+2<=sizeLine/\q (.lst ((Txt.split s t).map D.str))
 | _,_=>False
theorem zgU:SndT K (λx xs H Q=>∃ a b,x=.str a/\xs=[.str b]/\(b.length==0)=false/\a.length+2<=sizeLine/\rNewStrs (Txt.split a b) H Q) zgq where
 run:=λG H x mx F xs ms Q ex w ow q=>by
  obtain ⟨v,a,rfl,rfl,⟨F',w'⟩,q⟩:=zd9 ow q
  split at q
  ·rename_i s t e1 e2
   have h1:=zaY (u:=.str s) w (by rw [e1]; rfl)
   have h2:=zaY (u:=.str t) w' (by rw [e2]; rfl)
   subst h1 h2
   obtain ⟨c1,c2,q⟩:=q
   exact ⟨s,t,rfl,rfl,c1,c2,λp hp=>q _ _ (.lst hp (.ofStrs _))⟩
  ·exact q.elim
 mono:=λa b q q' h k=>zc7 (λm k=>by
  split at k
  ·exact ⟨k.1,k.2.1,h _ k.2.2⟩
  ·exact k.elim) k
end
def zgb (a b:D):R (List D):=match a,b with
 | .str s,.str t=>need (!(t.length==0)&&Nat.ble (s.length+2) 16777216) (.ok ((Txt.split s t).map D.str))
 | _,_=>.no
section
variable {β:Type} {P:β->Prop} {XP:Xn->Prop} {k:M->Prop} {ma mb:M}
theorem zk6 {f:List D->R β} (h:((zgb ma.d mb.d).bind f).post P XP) (q:∀ v,(f v).post P XP->k (.lst v)):zgq ma [mb] k:=by
 unfold zgb at h
 unfold zgq one
 try dsimp only
 split at h
 ·rename_i e1 e2
  try rw [e1,e2]
  obtain ⟨c,h⟩:=zbx h
  obtain ⟨c1,c2⟩:=yaL.mp c
  exact ⟨by simpa using c1,by rw [show sizeLine=16777216 from rfl]; exact yaD c2,q _ h⟩
 ·exact h.elim
end
def addN:List (Key×List D)->Key->D->List (Key×List D)
 | [],k,d=>[(k,[d])]
 | x::r,k,d=>if x.1=k then (x.1,x.2++[d])::r else x::addN r k d
inductive LsA (K:PySem.W.Frag) (G H:Hp):List (Key×List D)->List Addr->Prop
 | nil:LsA K G H [] []
 | cons {k:Key} {ds:List D} {q:Addr} {vs:List V} {kls:List (Key×List D)} {qs:List Addr} (h:H q=some (.lst vs)) (r:Reps K G vs ds) (t:LsA K G H kls qs):LsA K G H ((k,ds)::kls) (q::qs)
section
variable {K:PySem.W.Frag} {G G' H H':Hp}
theorem LsA.mono:∀ {kls:List (Key×List D)} {qs:List Addr},LsA K G H kls qs->Ex G G'->(∀ a∈qs,H' a=H a)->LsA K G' H' kls qs
 | _,_,.nil,_,_=>.nil
 | _,_,.cons h r t,e,k=>.cons (by rw [k _ yaa]; exact h) (r.mono e) (t.mono e λa z=>k a (yab _ z))
end
abbrev TSX:Type:=Addr->Value->Option Addr->TS
def endTL (D:L2.Ends) (i:Nat):L2.Ends:={ D with nx:=λu G=>D.nx (u.set i none) G,bk:=λu G=>D.bk (u.set i none) G,ct:=λu G=>D.ct (u.set i none) G }
def wAsL (K:PySem.W.Frag) (i:Nat) (Wo:WX) (D:L2.Ends):List (Value×TSX)->WX
 | []=>Wo
 | c::r=>λcl d u G=>∃ t,PySem.W.exmOne K cl c.1=some t/\(t=true->∀ p,G p=none->c.2 p cl d (endTL D i) (u.set i (some (.ref p))) G)/\(t=false->wAsL K i Wo D r cl d u G)
inductive ClsL (X:Cx) (n:Str):List ExceptHandler->List (Value×TSX)->Prop
 | nil:ClsL X n [] []
 | cons {x:Str} {c:Value} {ts:TSX} {b:Stmt} {bs:List Stmt} {q1 q2:Pos} {hs:List ExceptHandler} {l:List (Value×TSX)} (hc:L2.Names X x c)
  (su:∀ (p:Addr) (o:Obj) (cl:Value) (d:Option Addr) (pn:List (Addr×Obj)),Zc cl d o->(∃ vs,o.data=.fields vs)->PSs (X.suite p ((p,o)::pn)) (b::bs) (ts p cl d)) (r:ClsL X n hs l) :
  ClsL X n (.ExceptHandler (some (.Name x q1)) (some n) (b::bs) q2::hs) ((c,ts)::l)
section
variable {X:Cx} {n:Str} {i:Nat} {body:List Stmt} {h0:ExceptHandler} {hs:List ExceptHandler} {l:List (Value×TSX)} {pos:Pos} {tb:WX->TS} {Wo:WX}
theorem zoZ (stk:X.stack=X.env::X.outer) (frm:X.env.frame=some X.env.locals) (nd:X.N.Nodup) (at_:X.N[i]?=some n) (lcl:X.env.kindOf n=some .local) (tk:Takes X Wo)
 (hb:∀ (W:WX) (pn:List (Addr×Obj)) (xe:Value->Shared->Prop),Takes (X.tr pn xe) W->PassesOwn (model X.prog X.w) X.A X.env xe->PSs (X.tr pn xe) body (tb W))
 (hh:ClsL X n (h0::hs) l):PS X (.Try body (h0::hs) [] [] pos) (λD u G=>tb (wAsL X.K i Wo D l) D u G):=by
 refine ⟨λpins s u G D I q => ?_⟩
 have ok:=I.ok
 have own:Loc X.env.scope n:=.inl lcl
 refine wpAny_Try_except (wpAny_mono ((hb (wAsL X.K i Wo D l) (X.pn++pins) (λe sA=>wpAny (model X.prog X.w) X.A (noteFrame e X.env) (λ_ sB=>wpAny (model X.prog X.w) X.A (setFlight e none) (λ_ sC =>
  wpAny (model X.prog X.w) X.A (handleBy e X.env (h0::hs)) (SP X pins D) X.xe sC) X.xe sB) X.xe sA) (λv t caught => ?_) PassesOwn.looking).run [] s u G D (I.toTry _) q) (λf t z => ?_) λ_ _ z=>z)
 ·obtain ⟨p,B,t0,pins2,u2,G2,cl,d,rfl,J0,fresh,grew,high,free,same,agr,wish⟩:=caught
  have J:Inv X pins u2 G2 t0:=J0.ofTry ok
  refine Sky.land Zc.steady (by rw [ok.frames,stk]) frm (by rw [← stk]; exact high) λhp fl more => ?_
  have JJ:Inv X pins u2 G2 { t with heap:=hp }:=J.landed fresh fl.1 (grew.trans more) same agr
  obtain ⟨o1,vs1,at1,z1,d1⟩:=fl.there
  have out:p∉frs (X.env::X.outer):=λinn=>by
   obtain ⟨_,o2,at2,no⟩:=fl.2.2.1.mem inn
   rw [at1] at at2
   cases at2
   exact no _ d1
  have nl:p≠X.env.locals:=λz=>out (ybj.mpr ⟨X.env,yaa,by rw [frm,z]⟩)
  have nf:p∉X.fs:=λinn=>by
   obtain ⟨en,ine,eq⟩:=ybj.mp inn
   exact out (ybj.mpr ⟨en,yab _ ine,eq⟩)
  have S1:=JJ.suite at1 d1 free nl nf
  have go:∀ {hs':List ExceptHandler} {l':List (Value×TSX)},ClsL X n hs' l'->wAsL X.K i Wo D l' cl d u2 G2 ->
   wpAny (model X.prog X.w) X.A (handleBy (.ref p) X.env hs') (SP X pins D) X.xe { t with heap:=hp }:=by
   intro hs' l' C
   induction C with
   | nil =>
     intro wish
     obtain ⟨_,_,_,o3,vs3,T,oT,ts3,at3,z3,d3,r1,r2⟩:=id fl
     refine wpAny_handleBy_nil ?_
     unfold PySem.passOn
     refine wpAny_bind (wpAny_field at3 d3 r1 ?_)
     rw [yaH (show ¬ ((Value.ref T==Value.none)=true) from by simp)]
     have last:wpAny (model X.prog X.w) X.A (setFlight (.ref p) X.env.frame) (λ_ s4=>wpAny (model X.prog X.w) X.A (throw (.ref p):Sem Flow) (SP X pins D) X.xe s4) X.xe { t with heap:=hp }:=by
      rw [frm]
      exact HandSPX.setFlight_upZ fl λh4 hot up4=>wpAny_throw (tk _ _ ⟨p,B,t0,pins,u2,G2,cl,d,rfl,J,fresh,(grew.trans more).trans up4,.inr (.inr (by rw [stk]; exact hot)),free,same,agr,wish⟩)
     first
      | exact wpAny_bind (wpAny_pure (wpAny_bind last))
      | exact wpAny_bind last
   | @cons x c ts b bs q1 q2 hs2 l2 hc su r ih =>
     rintro ⟨v,e,yes,no⟩
     refine wpAny_handleBy_cons (codeAny_handlers_test ?_) (by intro z; cases z)
     have LM:=PySem.W.exm_one (M:=model X.prog X.w) JJ.kIn (show PySem.W.Looks (model X.prog X.w) hp (typeOf (.ref p)) cl from λA Q E s k z=>wpAny_typeOf_ref (k _ _ at1) (by rw [z1.1]; exact z)) e
     have test:∀ {Q:Value->Shared->Prop} {E:Value->Shared->Prop},Q c { t with heap:=hp }->wpAny (model X.prog X.w) (X.A.mark (some (.ref p))) (eval (.Name x q1) X.env) Q E { t with heap:=hp }:=λ{Q E} z=>by
      obtain ⟨gl,nodbg,m | ⟨m,boot,ne⟩⟩:=hc
      ·exact ld_glob (X:=X.suite p ((p,o1)::(X.pn++pins))) S1 gl m z nodbg
      ·exact ld_blt (X:=X.suite p ((p,o1)::(X.pn++pins))) S1 gl m boot z ne nodbg
     refine test (LM.here ?_)
     cases v with
     | false=>exact ih (no rfl)
     | true =>
       refine codeAny_handlers_suite_as (HandSPX.lands_againZ fl λh4 fl4 up4 => ?_)
       have J4:Inv X pins u2 G2 { t with heap:=h4 }:=J.landed fresh fl4.1 ((grew.trans more).trans up4) same agr
       obtain ⟨o4,vs4,at4,z4,d4⟩:=fl4.there
       refine store_ok (X:=X.suite p ((p,o4)::(X.pn++pins))) (v:=.ref p) (J4.suite at4 d4 free nl nf) nd at_ own rfl (λs5 S5 => ?_) (.inr lcl)
       refine wpAny_mono ((su p o4 cl d (X.pn++pins) z4 ⟨_,d4⟩).run [] s5 _ G2 _ S5 (yes rfl p free)) (λf s6 z => ?_) (λ_ _ z=>False.elim z)
       have shut:∀ {u6:L2.St} {G6:Hp} {Q:Shared->Prop},Inv (X.suite p ((p,o4)::(X.pn++pins))) [] u6 G6 s6->(∀ s7,Inv X pins (u6.set i none) G6 s7->Q s7) ->
        wpAny (model X.prog X.w) X.A (do bindName X.env n .none; unbindBehindTheSuite X.env n q2) (λ_ s7=>Q s7) X.xe s6:=λS6 z=>gone_ok (S6.unsuite ok) nd at_ lcl z
       match f,z with
       | .next,⟨_,_,S6,z⟩=>exact shut S6 λs7 J7=>⟨_,_,J7,z⟩
       | .brk,⟨_,_,S6,z⟩=>exact shut S6 λs7 J7=>⟨_,_,J7,z⟩
       | .cont,⟨_,_,S6,z⟩=>exact shut S6 λs7 J7=>⟨_,_,J7,z⟩
       | .ret _,⟨_,_,_,S6,r6,z⟩=>exact shut S6 λs7 J7=>⟨_,_,_,J7,r6,z⟩
  exact go hh wish
 ·match f,z with
  | .next,⟨_,_,J,z⟩=>exact wpAny_execs_nil ⟨_,_,J.ofTry ok,z⟩
  | .brk,⟨_,_,J,z⟩=>exact ⟨_,_,J.ofTry ok,z⟩
  | .cont,⟨_,_,J,z⟩=>exact ⟨_,_,J.ofTry ok,z⟩
  | .ret _,⟨_,_,_,J,r,z⟩=>exact ⟨_,_,_,J.ofTry ok,r,z⟩
end
abbrev SuX:Type:=Str×(Hd->Xn->WS)
def exL' (E:WEnds) (i:Nat):List SuX->Xn->En->Prop
 | [],x,e=>E.ex x e
 | c::r,x,e=>if subX x.cls c.1=true then ∀ h,okHd h x->c.2 h x (E.unb i) (e.set i (some (.fz (hdD h x)))) else exL' E i r x e
def WEnds.tL (E:WEnds) (i:Nat) (l:List SuX):WEnds:={ E with ex:=exL' E i l }
def zvA (i:Nat) (l:List SuX) (b:WS):WS:=λE e=>b (E.tL i l) e
inductive SuL (y:Y) (κ:List (Nat×V)) (NS:List Str) (nm:Str):List ExceptHandler->List SuX->Prop
 | nil:SuL y κ NS nm [] []
 | cons {n:Str} {su:Hd->Xn->WS} {b:Stmt} {bs:List Stmt} {q1 q2:Pos} {hs:List ExceptHandler} {l:List SuX} (hn:NS.contains n=true) (hg:Gl y.X n) (hdb:(n==("__debug__" : Str))=false)
  (hsu:∀ (a:Addr) (oe:Obj) (x:Xn) (pn:List (Addr×Obj)),InF y.X.K NS x a oe->SSs (y.su a ((a,oe)::pn)) κ (b::bs) (su (a,oe.dict) x)) (hm:∀ a x,zfn (su a x)) (r:SuL y κ NS nm hs l) :
  SuL y κ NS nm (.ExceptHandler (some (.Name n q1)) (some nm) (b::bs) q2::hs) ((n,su)::l)
section
variable {y:Y} {κ:List (Nat×V)} {pos:Pos} {NS NP:List Str} {body:List Stmt} {h0:ExceptHandler} {hs:List ExceptHandler} {nm:Str} {b:WS} {i:Nat} {l:List SuX}
theorem SuL.monoX {hs:List ExceptHandler} (S:SuL y κ NS nm hs l) {E E':WEnds} (le:E.Le E'):∀ x e,exL' E i l x e->exL' E' i l x e:=by
 induction S with
 | nil=>exact le.ex
 | cons hn hg hdb hsu hm r ih =>
   intro x e q
   unfold exL' at q ⊢
   split at q
   ·next z=>rw [yaM z]; exact λa k=>hm a x _ _ _ (le.unb i) (q a k)
   ·next z=>rw [yaH z]; exact ih x e q
theorem ytryL (xs:Xs y.X.K y.X.mg y.xr NS NP) (nd:y.X.N.Nodup)
 (hb:∀ (W:WX) (pn:List (Addr×Obj)) (xe:Value->Shared->Prop),Takes (y.X.tr pn xe) W->PassesOwn (model y.X.prog y.X.w) y.X.A y.X.env xe->SSs (y.tr pn xe W) κ body b)
 (hh:SuL y κ NS nm (h0::hs) l)
 (tk:Takes y.X y.W:=by exact takes_of rfl rfl rfl rfl) (hp:PassesOwn (model y.X.prog y.X.w) y.X.A y.X.env y.X.xe:=by exact passes_of rfl)
 (hst:y.X.stack=y.X.env::y.X.outer:=by rfl) (hf:y.X.env.frame=some y.X.env.locals:=by rfl) (hi:y.X.N[i]?=some nm:=by rfl) (hln:y.X.env.kindOf nm=some .local:=by rfl)
 (hκ:∀ p∈κ,p.1≠i:=by exact zlR rfl) :
 SS y κ (.Try body (h0::hs) [] [] pos) (zvA i l b):=by
 have mb:zfn b:=(hb (λ_ _ _ _=>False) y.X.pn y.X.xe takes_none5 hp).mono
 have key:∀ {hs:List ExceptHandler} {l:List SuX},SuL y κ NS nm hs l->∃ L:List (Value×TSX),ClsL y.X nm hs L/\∀ {P:List (V×M)} {D:L2.Ends} {x:Xn} {e:En} {u:L2.St} {c:Value} {d:Option Addr} {G:Hp},
  Kept κ u->xrT y.X.K NS x c d G->Ok y.X.K G u e P->exL' (lend y κ P D) i l x e->wAsL y.X.K i y.W D L c d u G:=λ{hs l} S=>by
  induction S with
  | nil=>exact ⟨[],.nil,λ{P D x e u c d G} k r o q=>q u c d G k (by rw [xs.rel]; exact r) o⟩
  | @cons n su b0 bs q1 q2 hs l hn hg hdb hsu hm r ih =>
    obtain ⟨L,C,f⟩:=ih
    refine ⟨(.ref (He.ga y.X.K n),λa cls d D u G=>∃ x,NS.contains x.cls=true/\cls=.ref (He.ga y.X.K x.cls)/\okHd (a,d) x/\zlI ⟨y.X,y.xr,λ_ _ _ _=>False⟩ κ (su (a,d) x) D u G)::L,.cons ⟨hg,hdb,.inl (xs.at_ n hn)⟩ (λa oe cls d pn hz hf => ?_) C,λ{P D x e u c d G} k r o q => ?_⟩
    ·refine ⟨λpins s u G D I ⟨x,h1,h2,h3,q⟩ => ?_⟩
     have ed:oe.dict=d:=hz.2
     subst ed
     exact (hsu a oe x pn ⟨h1,hz.1.trans h2,h3,hf⟩).run.run pins s u G D I q
    ·obtain ⟨r1,r2,r3⟩:=id r
     unfold exL' at q
     refine ⟨subX x.cls n,by rw [r2]; exact xs.exm _ _ r1 hn,λhx a ha => ?_,λhx => ?_⟩
     ·rw [yaM hx] at q
      have st:stHd G (a,d) x:=by
       unfold stHd
       split at r3
       ·next e=>first | exact r3 | (rw [e]; exact r3)
       ·next f v e=>first | exact r3 | (rw [e]; exact r3)
      refine ⟨x,r1,r2,st.ok,e.set i (some (.fz (hdD (a,d) x))),P,k.set hκ,zfr i (ok_hd o st),hm (a,d) x ((lend y κ P D).unb i) _ _ ⟨λe2 q u2 H2 k2 o2 => ?_,λ_ _ q=>q,λe2 q u2 H2 k2 o2 => ?_,λe2 q u2 H2 k2 o2 => ?_,λ_ _ q=>False.elim q⟩ (q (a,d) st.ok)⟩
      ·exact q _ H2 (k2.set hκ) (o2.forget i none)
      ·exact q _ H2 (k2.set hκ) (o2.forget i none)
      ·exact q _ H2 (k2.set hκ) (o2.forget i none)
     ·rw [yaH (by rw [hx]; exact yat)] at q
      exact f k r o q
 obtain ⟨L,C,f⟩:=key hh
 refine ⟨zdW (zoZ (tb:=λW=>zlI ⟨y.X,y.xr,W⟩ κ b) hst hf nd hi hln tk (λW pn xe t p=>(hb W pn xe t p).run) C) λD u G ⟨e,P,hk,h0,q⟩ => ?_,λE E' e le q=>mb (E.tL i l) (E'.tL i l) e ⟨le.nx,le.rt,le.bk,le.ct,hh.monoX le⟩ q⟩
 refine ⟨e,P,hk,h0,mb ((lend y κ P D).tL i l) _ e ⟨λ_ q=>q,λ_ _ q=>q,λ_ q=>q,λ_ q=>q,λx e' q u' c d G' k r o => ?_⟩ q⟩
 exact f k (by rw [← xs.rel]; exact r) o q
end
section
variable {β:Type} {P:β->Prop} {XP:Xn->Prop}
theorem k_tryL {i:Nat} {l:List SuX} {b:WS} {E:WEnds} {e:En} (q:b (E.tL i l) e):zvA i l b E e:=q
theorem zud {x:Xn} {n:Str} {r1 r2:R β} {A:Hd->Prop} {B:Prop} (h:(if subX x.cls n=true then r1 else r2).post P XP) (q:∀ a,r1.post P XP->A a) (q2:r2.post P XP->B):if subX x.cls n=true then ∀ a,okHd a x->A a else B:=by
 by_cases z:subX x.cls n=true
 ·rw [yaM z] at h ⊢
  exact λa _=>q a h
 ·rw [yaH z] at h ⊢
  exact q2 h
end
theorem zsX {fx:PySem.W.Frag->Bool} {n:Nat} {fa:List He.Fa} {fn:List He.DefD} {g:Addr->Option Obj} {s:Shared} (h:∀ a,g a=s.heap.get? a):zux fx n fa fn g=(hookY fx n fa fn).obs s:=by
 have e:g=s.heap.get?:=funext h
 rw [e]<;>rfl
section
variable {y:Y} {κ:List (Nat×V)} {pos p p3:Pos} {NS NP:List Str} {a:Expr} {w:WE}
theorem znb {x f:Str} {k:Nat} (xs:Xs y.X.K y.X.mg y.xr NS NP) (hn:NS.contains x=true) (F:XFd y.X.prog y.X.w y.X.K y.X.mg y.X.base k x f) (hr:Room (k+1) y.X.A) (ha:SE y a w) (hc:y.X.calm=true:=by rfl)
 (tk:Takes y.X y.W:=by exact takes_of rfl rfl rfl rfl) (hg:Gl y.X x:=by rfl) (hdb:(x==("__debug__" : Str))=false:=by decide)
 (he:starEach [a] y.X.env=(false,eval a y.X.env)::starEach [] y.X.env:=by rfl) (hpl:(backTo p3 (starEach [] y.X.env)).any (·.1)=false:=by rfl) :
 SS y κ (.Raise (some (.Call (.Name x p) [a] [] p3)) none pos) (zcz x f w):=zvw xs hn F hr ha hc (passes_call tk λ_ _ _ _ z=>z.elim) tk hg hdb he hpl
end
def zkn (M:Model) (A:Around) (E:Value->Shared->Prop) (use:Option (Value->Sem Unit)) (Q:Value->Shared->Prop) (acc:Value) (ce:Env) (r:Result) (s':Shared):Prop :=
 match r,use with
 | .ok _,none=>∃ m,s'.heap.Ns ce.locals m/\∀ h',Heap.SameBut ce.locals s'.heap h'->Q acc { s' with heap:=h' }
 | .ok _,some u=>wpAny M A (u acc) (λ_ s2=>∃ m,s2.heap.Ns ce.locals m/\∀ h',Heap.SameBut ce.locals s2.heap h'->Q .none { s2 with heap:=h' }) E s'
 | .error x,_=>∃ m,s'.heap.Ns ce.locals m/\∀ h',Heap.SameBut ce.locals s'.heap h'->wpAny M A (passOn "comprehension.variables-let-go" x ce:Sem Value) (λ_ _=>False) E { s' with heap:=h' }
theorem zvB {env:Env} {names:List (Str×NameKind)} {x:Str} (h:names.lookup x=some .local) :
 (names.map λ(n,k)=>if (k==NameKind.free&&env.scope.kind==.function&&env.kindOf n==some .cell) then (n,NameKind.cell) else (n,k)).lookup x=some .local:=lookup_relabel_local h
theorem walkCX {M:Model} {A:Around} {E:Value->Shared->Prop} {s:Shared} {env:Env} {e:Expr} {scope:Scope} {pos:Pos} {mk first:Sem Value} {g:Comprehension} {gs:List Comprehension} {cl:List (Str×Addr)} {use:Option (Value->Sem Unit)} {Q:Value->Shared->Prop}
 (hcl:clausesOf e=g::gs) (hs:∀ x,foldedSetIterable g.iter env x=pure x) (hclos:closureFor scope env=pure cl) (hkind:scope.kind=.function) (hn:∀ x∈scope.names,x.2=.local->scope.names.lookup x.1=some .local)
 (h:wpAny M A first (λx s1=>wpAny M A (pyIter x) (λit s2=>wpAny M A mk (λacc s3=>wpAny M A (newFunctionEnv scope env.globals cl [] env.qual none .none (some env)) (λce s4 =>
  codeAny M A (.compStart e 0 it acc { ce with scope:=relabel scope env }) (zkn M A E use Q acc { ce with scope:=relabel scope env }) s4) E s3) E s2) E s1) E s) :
 wpAny M A (comprehension e scope env pos mk false first use) Q E s:=by
 unfold comprehension
 rw [hclos,hcl]
 refine wpAny_bind (wpAny_mono h (λx s1 h1=>wpAny_bind (wpAny_standAt ?_)) λ_ _ z=>z)
 refine wpAny_bind (wpAny_of_eq (hs x) ?_)
 refine wpAny_bind (wpAny_holding (wpAny_mono h1 (λit s2 h2 => ?_) λ_ _ z=>z))
 refine wpAny_standIf (wpAny_bind (wpAny_mono h2 (λacc s3 h3 => ?_) λ_ _ z=>z))
 refine wpAny_bind (wpAny_pure (wpAny_bind (wpAny_mono h3 (λce s4 h4 => ?_) λ_ _ z=>z)))
 dsimp only
 have key:∀ l:List (Str×NameKind),(∀ y∈l,y∈scope.names)->∀ y∈l,y.2=.local->Env.kindOf { ce with scope:=relabel scope env } y.1=some .local:=λl hl y hy z=>zvB (hn y (hl y hy) z)
 have m1:∀ y∈(scope.names.filter λx=>(x.2==.local||x.2==.cell)&&x.1 != (".0" : Str)).reverse,y∈scope.names:=λy hy=>(ya1.mp (List.mem_reverse.mp hy)).1
 refine wpAny_holding (wpAny_bind (wpAny_attempt (wpAny_holding (wpAny_run (codeAny_mono h4 λr s5 hr => ?_)))))
 match r,use,hr with
 | .ok f,none,⟨m,n5,q⟩=>exact wpAny_bind (wpAny_holding (wpAny_comp_letGo (cenv:={ ce with scope:=relabel scope env }) hkind _ s5 m (key _ m1) n5 λh' m' _ sb=>wpAny_pure (q h' sb)))
 | .ok f,some u,hr =>
   refine wpAny_bind (wpAny_rule (wpAny_bind (wpAny_holding (wpAny_mono hr (λ_ s6 ⟨m,n6,q⟩ => ?_) λ_ _ z=>z))))
   refine wpAny_bind (wpAny_comp_letGo (cenv:={ ce with scope:=relabel scope env }) hkind _ s6 m (key _ λy hy => ?_) n6 λh' m' _ sb=>wpAny_pure (q h' sb))
   rcases yas.mp hy with z | z
   ·exact m1 y (ybI z)
   ·exact m1 y (ybl z)
 | .error x,use,hr =>
   have hr':∃ m,s5.heap.Ns ce.locals m/\∀ h',Heap.SameBut ce.locals s5.heap h'->wpAny M A (passOn "comprehension.variables-let-go" x { ce with scope:=relabel scope env }:Sem Value) (λ_ _=>False) E { s5 with heap:=h' }:=by cases use<;>exact hr
   obtain ⟨m,n5,q⟩:=hr'
   exact wpAny_bind (wpAny_holding (wpAny_comp_letGo (cenv:={ ce with scope:=relabel scope env }) hkind _ s5 m (key _ m1) n5 λh' m' _ sb=>wpAny_mono (q h' sb) (λ_ _ z=>z.elim) λ_ _ z=>z))
abbrev ZT:=Value->Option Addr->Obj->Prop
def CXZ (ZZ:ZT) (P:Program) (w:World) (outer:List Env) (H:Hp) (s:Shared) (E:XK) (u:Value) (s':Shared):Prop :=
 ∃ (a:Addr) (B:Heap) (H':Hp) (cls:Value) (d:Option Addr),u=.ref a/\HandSPX.FlyingZ B outer a (ZZ cls d) s'.heap/\HOk P w H' B/\UB (frs outer) H H' s.heap B s'.heap/\H' a=none/\s'.os=s.os/\AllBare s'.gens/\E cls d H'
def XEZ (ZZ:ZT) (X:Cx) (W:WX) (u:Value) (s':Shared):Prop :=
 ∃ (a:Addr) (B:Heap) (sI:Shared) (pins:List (Addr×Obj)) (σ:L2.St) (H:Hp) (cls:Value) (d:Option Addr),
   u=.ref a/\Inv X pins σ H sI/\(∀ b o,sI.heap.get? b=some o->b∉frs X.stack->B.get? b=some o)/\sI.heap.UpToSlots s'.heap /\
    Sky B X.stack a (ZZ cls d) X.env.locals s'.heap/\H a=none/\s'.os=sI.os/\AllBare s'.gens/\W cls d σ H
def zfz (Z:Obj->Prop):Prop:=∀ {M:Model} {A:Around} {E:Value->Shared->Prop} {env:Env} {outer:List Env} {L a:Addr} {B:Heap} {s:Shared} {Q:Unit->Shared->Prop},A.frames=some (env::outer)->env.frame=some L ->
 HandSPX.FlyingZ B (env::outer) a Z s.heap->(∀ h',HandSPX.HeldZ B (env::outer) a Z L h'->s.heap.UpToSlots h'->Q () { s with heap:=h' })->wpAny M A (noteFrame (.ref a) env) Q E s
theorem looksC {c:Value} {d:Option Addr}:zfz (Zc c d):=λh1 h2 h3 h4=>HandSPX.looks_onZ Zc.steady h1 h2 h3 h4
theorem looksN {c:Value} {d:Option Addr}:zfz (L2N.Zn c d):=λh1 h2 h3 h4=>PXN.looks_onZ L2N.Zn.steady h1 h2 h3 h4
theorem zqN {e:Value} {c env:Env} (h:c.frame=env.frame):noteFrame e c=noteFrame e env:=by
 unfold noteFrame PySem.frameOf
 rw [h]
def airB (ZZ:ZT) (X Y:Cx) (W:WX) (σ:L2.St) (u:Value) (s':Shared):Prop:=∃ (pins:List (Addr×Obj)) (τ:L2.St) (H2:Hp) (s1:Shared),Inv Y pins τ H2 s1/\CXZ ZZ X.prog X.w X.stack H2 s1 (λc d H'=>W c d σ H') u s'
abbrev blkA (ZZ:ZT) (X:Cx) (W:WX) (σ:L2.St) (s:Shared) (H:Hp) (scope:Scope) (ce:Env) (fp:List Addr):Cx:=(X.blk s H scope ce fp).wish (airB ZZ X (X.blk s H scope ce fp) W σ)
theorem zl1 {B B' h h':Heap}:∀ {l:List Env},h.FunFrames B l->(∀ L∈frs l,B'.get? L=none)->(∀ L∈frs l,h'.get? L=h.get? L)->h'.FunFrames B' l
 | [],_,_,_=>trivial
 | env::l,x,y,z=>by
   obtain ⟨k,⟨L,o,f,_,e,d⟩,r⟩:=x
   have hL:L∈frs (env::l):=ybj.mpr ⟨env,yaa,f⟩
   have up:∀ b,b∈frs l->b∈frs (env::l):=λb hb=>by
    obtain ⟨en,m,q⟩:=ybj.mp hb
    exact ybj.mpr ⟨en,yab _ m,q⟩
   exact ⟨k,⟨L,o,f,y L hL,(z L hL).trans e,d⟩,zl1 r (λb m=>y b (up b m)) λb m=>z b (up b m)⟩
theorem zvC {ZZ:ZT} {X:Cx} {W:WX} {pins:List (Addr×Obj)} {σ:L2.St} {H3:Hp} {s3 s':Shared} {scope:Scope} {ce:Env} {fp:List Addr} {u:Value} {E:Value->Shared->Prop}
 (hst:X.stack=X.env::X.outer) (hf:X.env.frame=some X.env.locals) (lk:∀ c d,zfz (ZZ c d)) (tk:∀ u s',XEZ ZZ X W u s'->X.xe u s') (I3:Inv X pins σ H3 s3) (f3:∀ b∈fp,FpOk X pins H3 b)
 (cL:ce.locals=s3.heap.objs.size) (cf:ce.frame=X.env.frame) (air:airB ZZ X (X.blk s3 H3 scope ce fp) W σ u s') :
 wpAny (model X.prog X.w) X.A (noteFrame u ce) (λ_ s2=>∃ m,s2.heap.Ns ce.locals m/\∀ h',Heap.SameBut ce.locals s2.heap h'->wpAny (model X.prog X.w) X.A (passOn "comprehension.variables-let-go" u ce:Sem Value) (λ_ _=>False) X.xe { s2 with heap:=h' }) E s':=by
 obtain ⟨pb,τ,H2,s1,Ib,a,B,H',cls,d,rfl,fl,hok,ub,na,os,ag,w⟩:=air
 have hfr:X.A.frames=some (X.env::X.outer):=by rw [I3.ok.frames,hst]
 have stk:∀ b∈frs X.stack,b≠ce.locals:=λb hb z=>by
  obtain ⟨_,o,e,_⟩:=I3.stack.mem hb
  have:=Heap.lt_size e
  rw [z,cL] at this
  exact absurd this (ycy _)
 obtain ⟨m0,n0,_⟩:=Ib.loc
 have n0:s1.heap.Ns ce.locals m0:=n0
 have nB:B.Ns ce.locals m0:=by
  obtain ⟨o,es,ep,e,r⟩:=n0
  exact ⟨o,es,ep,ub.keep _ o e Ib.free λhm=>stk _ hm rfl,r⟩
 obtain ⟨oC,esC,epC,eC,dC,rC⟩:=id nB
 have neC:∀ b,B.get? b=none->b≠ce.locals:=λb q z=>by rw [z,eC] at q; cases q
 have nH:H' ce.locals=none:=by
  obtain ⟨o,es,ep,e,r⟩:=n0
  exact ub.free _ o e Ib.free
 rw [zqN cf]
 rw [hst] at fl
 refine lk cls d hfr hf fl λh2 hh up => ?_
 refine ⟨m0,⟨oC,esC,epC,hh.1 _ _ eC,dC,rC⟩,λh' sb => ?_⟩
 obtain ⟨B',b1,b2⟩:=restrict B λb=>decide (b≠ce.locals)
 have bb:∀ b o,B'.get? b=some o->B.get? b=some o/\b≠ce.locals:=λb o e=>by
  by_cases z:b=ce.locals
  ·rw [b2 b (by simp [z])] at e; cases e
  ·rw [b1 b (by simp [z])] at e; exact ⟨e,z⟩
 have bn:∀ b,B.get? b=none->B'.get? b=none:=λb q=>by
  rw [b1 b (by simpa using neC b q)]
  exact q
 have held:HandSPX.HeldZ B' (X.env::X.outer) a (ZZ cls d) X.env.locals h':=by
  obtain ⟨x1,x2,x3,oe,vs,T,oT,ts,y1,y2,y3,y4,y5,y6,y7,y8,y9⟩:=hh
  refine ⟨λb o e => ?_,bn a x2,zl1 x3 (λL hL=>bn L (x3.mem hL).1) λL hL=>sb.2 L (neC L (x3.mem hL).1),oe,vs,T,oT,ts,(sb.2 a (neC a x2)).trans y1,y2,y3,y4,bn T y5,y6,(sb.2 T (neC T y5)).trans y7,y8,y9⟩
  obtain ⟨e,z⟩:=bb b o e
  exact (sb.2 b z).trans (x1 b o e)
 obtain ⟨G,g1,g2⟩:=restrict s'.heap λb=>decide (b≠ce.locals)&&((B.get? b).isSome||decide (b∈frs X.stack))
 have gI:∀ b o,G.get? b=some o->b≠ce.locals/\s'.heap.get? b=some o/\(b∉frs X.stack->B.get? b=some o):=λb o e=>by
  cases q:(decide (b≠ce.locals)&&((B.get? b).isSome||decide (b∈frs X.stack))) with
  | false=>rw [g2 b q] at e; cases e
  | true =>
    rw [g1 b q] at e
    simp only [yap,yaZ,yak] at q
    refine ⟨q.1,e,λnf => ?_⟩
    obtain ⟨o',e'⟩:=ybM.mp (q.2.resolve_right nf)
    have z:=fl.1 b o' e'
    rw [e] at z; cases z
    exact e'
 have gB:∀ b o,b≠ce.locals->B.get? b=some o->G.get? b=some o:=λb o n e=>by
  rw [g1 b (by simp [n,e])]
  exact fl.1 b o e
 have gF:∀ b,b∈frs X.stack->G.get? b=s'.heap.get? b:=λb hb=>g1 b (by simp [hb,stk b hb])
 have old:∀ b o,s3.heap.get? b=some o->b≠ce.locals:=λb o e z=>by
  have:=Heap.lt_size e
  rw [z,cL] at this
  exact absurd this (ycy _)
 have JI:Inv X pins σ H' { s3 with heap:=G,gens:=s'.gens,drawn:=s'.drawn,toks:=s'.toks }:=by
  refine I3.call' (ch:=fp) rfl ⟨λb o e n nf nx => ?_,λb o e n hb nx => ?_,λb o e n nx => ?_,λb o e nx => ?_,λb xs e=>ub.tups b xs (Ib.base.tups b xs e),λb o xs e=>ub.frzs b o xs (Ib.base.frzs b o xs e),λb ps e => ?_⟩ (λb o e => ?_) ag λb hb=>⟨(f3 b hb).2.2.2.1,(f3 b hb).2.1,(f3 b hb).2.2.2.2.1,(f3 b hb).2.2.2.2.2⟩
  ·exact gB b o (old b o e) (ub.keep b o (Ib.base.keep b o e n nf nx) (Ib.base.free b o e n nx) nf)
  ·obtain ⟨sl,e1⟩:=Ib.base.slot b o e n hb nx
   obtain ⟨sl2,e2⟩:=ub.slot b _ e1 hb
   exact ⟨sl2,(gF b hb).trans e2⟩
  ·obtain ⟨o',e1⟩:=Ib.base.there b o e nx
   exact ub.free b o' e1 (Ib.base.free b o e n nx)
  ·obtain ⟨o',e1⟩:=Ib.base.there b o e nx
   by_cases hb:b∈frs X.stack
   ·obtain ⟨sl,e2⟩:=ub.slot b o' e1 hb
    exact ⟨_,(gF b hb).trans e2⟩
   ·obtain ⟨o2,e2⟩:=ub.there b o' e1 hb
    exact ⟨o2,gB b o2 (old b o e) e2⟩
  ·obtain ⟨m1,e1⟩:=Ib.base.tbls b ps e
   obtain ⟨m2,e2⟩:=ub.tbls b _ e1
   exact ⟨m1++m2,by rw [e2,Array.append_assoc]⟩
  ·refine (hok b o e).stay (λc v hc q=>gB c v (λz => ?_) q) (λ_ r=>r) λ_ _ r=>r
   rcases hc with hc | hc
   ·rw [← hc,z,nH] at e; cases e
   ·rw [z,nH] at hc; cases hc
 unfold PySem.passOn
 obtain ⟨oe,vs,T,oT,ts,y1,_,y3,y4,_⟩:=id held.2.2.2
 refine wpAny_bind (wpAny_field y1 y3 y4 ?_)
 rw [yaH (show ¬ ((Value.ref T==Value.none)=true) from by simp)]
 have last:wpAny (model X.prog X.w) X.A (setFlight (.ref a) ce.frame) (λ_ s4=>wpAny (model X.prog X.w) X.A (throw (.ref a):Sem Value) (λ_ _=>False) X.xe s4) X.xe { s' with heap:=h' }:=by
  rw [cf,hf]
  refine HandSPX.setFlight_onZ held λh4 hh4 up4=>wpAny_throw (tk _ _ ⟨a,B',_,pins,σ,H',cls,d,rfl,JI,λb o e nf => ?_,λb o e nn => ?_,.inr (.inr (by rw [hst]; exact hh4)),na,?_,ag,w⟩)
  ·obtain ⟨n,_,r⟩:=gI b o e
   rw [b1 b (by simp [n])]
   exact r nf
  ·obtain ⟨n,e1,_⟩:=gI b o e
   obtain ⟨sl,e2⟩:=up b o e1 nn
   obtain ⟨sl2,e3⟩:=up4 b _ ((sb.2 b n).trans e2) nn
   exact ⟨sl2,e3⟩
  ·show s'.os=s3.os
   exact os.trans Ib.os
 first
  | exact wpAny_bind (wpAny_pure (wpAny_bind last))
  | exact wpAny_bind last
section
variable {ZZ:ZT} {X:Cx} {W:WX}
theorem zoi {pins:List (Addr×Obj)} {s:Shared} {σ:L2.St} {H:Hp} {Q:VK} {elt tg iter:Expr} {ifs:List Expr} {scope:Scope} {own:List (Str×Nat)} {pos pos':Pos} {wi:TI} {g:TG} {tt:TT} {te:TE} {use:Option (Value->Sem Unit)} {Qf:Value->Shared->Prop}
 (hst:X.stack=X.env::X.outer) (hf:X.env.frame=some X.env.locals) (lk:∀ c d,zfz (ZZ c d)) (tk:∀ u s',XEZ ZZ X W u s'->X.xe u s')
 (hc:X.calm=true) (hN:X.N.Nodup) (I:Inv X pins σ H s) (hi:PI X tg iter wi) (ok:BlkOk X.N X.env.scope scope own)
 (hg:∀ (s:Shared) (H:Hp) (C:Addr) (cl:List (Str×Addr)) (fp:List Addr),PG (X.blk s H scope (compEnvC scope cl C X.env) fp) tg g) (ht:∀ (s:Shared) (H:Hp) (C:Addr) (cl:List (Str×Addr)) (fp:List Addr),PTs (X.blk s H scope (compEnvC scope cl C X.env) fp) ifs tt)
 (he:∀ (s:Shared) (H:Hp) (C:Addr) (cl:List (Str×Addr)) (fp:List Addr),PE (blkA ZZ X W σ s H scope (compEnvC scope cl C X.env) fp) elt te) (hs:∀ x,foldedSetIterable iter X.env x=pure x)
 (h:tLc wi g tt te (own.map (·.2)) σ H Q)
 (fin:∀ D ce s' m H',Inv X pins σ H' s'->Q (.ref D) H'->s'.heap.Ns ce.locals m->FpOk X pins H' ce.locals->zkn (model X.prog X.w) X.A X.xe use Qf (.ref D) ce (.ok .next) s') :
 wpAny (model X.prog X.w) X.A (comprehension (.ListComp elt [⟨tg,iter,ifs,0⟩] scope pos) scope X.env pos' (newList []) false (eval iter X.env) use) Qf X.xe s:=by
 have caught:∀ y∈scope.names,y.2=.free->∃ c,X.env.cells.lookup y.1=some c:=λy hy e=>(ok.free y hy e).elim (λk=>I.ok.has _ (.inl k)) λk=>I.ok.has _ (.inr k)
 refine walkCX (use:=use) rfl hs (closure_ok caught) ok.kind (λy hy e=>by rw [ok.uniq y hy,e]) (thn (hi.run pins s σ H _ I h) λxv s1 hx=>thn hx λitv s2 h2 => ?_)
 obtain ⟨it,fp,tn,J,H2,rfl,I2,T,st2,f2,q⟩:=h2
 refine wpAny_newObj_type (newEnv_comp ?_) (by show 0<=sizeLine; decide)
 obtain ⟨D,hD⟩:∃ D,D=s2.heap.objs.size:=⟨_,rfl⟩
 rw [← hD]
 obtain ⟨Wt,⟨m0,w0⟩,turn⟩:=q D (I2.hok.fresh (Nat.le_of_eq hD.symm))
 obtain ⟨s3,e3⟩:∃ s3:Shared,s3={ s2 with heap:=s2.heap.push { cls:=.type "list",data:=.seq ([]:List Value).toArray } }:=⟨_,rfl⟩
 rw [← e3]
 have hp3:s3.heap=s2.heap.push { cls:=.type "list",data:=.seq ([]:List Value).toArray }:=by rw [e3]
 obtain ⟨H3,eH⟩:∃ H3,H3=upd H2 D (.lst []):=⟨_,rfl⟩
 have I3:Inv X pins σ H3 s3:=by
  rw [e3,eH]
  refine I2.laid (t':=s2.toks) (λb o e=>Heap.get?_push_of_some _ e) (Nat.le_of_eq hD.symm) ⟨ya4 _,[],0,.nil,?_⟩
  rw [hD]
  exact Heap.get?_push_size _ rfl
 have below:∀ b∈fp,b<s2.heap.objs.size:=λb hb=>by
  obtain ⟨o,e,_⟩:=T.obj _ _ st2 b hb
  exact Heap.lt_size e
 have f3:∀ b∈fp,FpOk X pins H3 b/\b<s3.heap.objs.size:=λb hb=>by
  refine ⟨⟨?_,(f2 b hb).2⟩,by rw [hp3,Heap.size_push]; exact ybT (below b hb)⟩
  rw [eH,upd_ne (by rw [hD]; exact yb6 (below b hb))]
  exact (f2 b hb).1
 have st3:tn 0 s3.heap:=T.keep _ _ _ st2 λb _ o e=>by rw [hp3]; exact Heap.get?_push_of_some _ e
 rw [← eH] at w0
 have I4:=block_start I3 ok hN f3
 have pg:=hg s3 H3 s3.heap.objs.size (cellsFrom (s3.heap.objs.size+1) scope.names (cloFrom X.env.cells scope.names [])) fp
 have pt:=ht s3 H3 s3.heap.objs.size (cellsFrom (s3.heap.objs.size+1) scope.names (cloFrom X.env.cells scope.names [])) fp
 have pe:=he s3 H3 s3.heap.objs.size (cellsFrom (s3.heap.objs.size+1) scope.names (cloFrom X.env.cells scope.names [])) fp
 show codeAny _ _ (.compStart (.ListComp elt [⟨tg,iter,ifs,0⟩] scope pos) 0 (.ref it) (.ref D) (compEnvC scope (cellsFrom (s3.heap.objs.size+1) scope.names (cloFrom X.env.cells scope.names [])) s3.heap.objs.size X.env))
  (zkn (model X.prog X.w) X.A X.xe use Qf (.ref D) (compEnvC scope (cellsFrom (s3.heap.objs.size+1) scope.names (cloFrom X.env.cells scope.names [])) s3.heap.objs.size X.env)) { s3 with heap:=pushCells (s3.heap.push { cls:=.type "dict",data:=.dict #[] }) scope.names }
 obtain ⟨ce,ece⟩:∃ ce,ce=compEnvC scope (cellsFrom (s3.heap.objs.size+1) scope.names (cloFrom X.env.cells scope.names [])) s3.heap.objs.size X.env:=⟨_,rfl⟩
 rw [← ece] at I4 pg pt pe ⊢
 have cL:ce.locals=s3.heap.objs.size:=by rw [ece]; rfl
 have cf:ce.frame=X.env.frame:=by rw [ece]; rfl
 obtain ⟨s4,e4⟩:∃ s4:Shared,s4={ s3 with heap:=pushCells (s3.heap.push { cls:=.type "dict",data:=.dict #[] }) scope.names }:=⟨_,rfl⟩
 rw [← e4] at I4 ⊢
 have st4:tn 0 s4.heap:=T.keep _ _ _ st3 λb _ o e=>by rw [e4]; exact pushCells_keeps _ _ _ _ (Heap.get?_push_of_some _ e)
 have out:∀ u s',airB ZZ X (X.blk s3 H3 scope ce fp) W σ u s'->notedBy (model X.prog X.w) X.A ce (λe s'=>zkn (model X.prog X.w) X.A X.xe use Qf (.ref D) ce (.error e) s') u s':=λu s' a=>by
  have z:=zvC (E:=λe s'=>zkn (model X.prog X.w) X.A X.xe use Qf (.ref D) ce (.error e) s') hst hf lk tk I3 (λb hb=>(f3 b hb).1) cL cf a
  unfold notedBy
  refine wpAny_mono z (λ_ s6 y => ?_) λ_ _ y=>y
  cases use<;>exact y
 have stat:∀ {σ':L2.St} {H':Hp} {s':Shared},Inv (X.blk s3 H3 scope ce fp) [] σ' H' s'->(∀ b∈fp,H' b=none)->∀ b∈fp,FpOk (X.blk s3 H3 scope ce fp) [] H' b:=λ{σ' H' s'} I' hn b hb =>
  ⟨hn b hb,(I'.ok.exf b hb).1,I'.ok.exfs b hb,.inl hb,λx c e=>(I'.ok.exf b hb).2 x c e,λp hp=>absurd (show p∈([]:List (Addr×Obj))++[] from hp) (by simp)⟩
 have loop:codeAny (model X.prog X.w) X.A (.compLoop (.ListComp elt [⟨tg,iter,ifs,0⟩] scope pos) 0 (.ref it) (.ref D) ce) (zkn (model X.prog X.w) X.A X.xe use Qf (.ref D) ce) s4:=by
  refine compLoop_any (λn s'=>∃ i H',Inv (X.blk s3 H3 scope ce fp) [] (wipe σ (own.map (·.2))) H' s'/\tn i s'.heap/\(∀ b∈fp,H' b=none)/\Wt i n H') ?_ m0 ⟨0,H3,I4,st4,λb hb=>(f3 b hb).1.1,w0⟩
  rintro n s5 ⟨i,H5,I5,st5,n5,w5⟩
  rcases turn i n H5 w5 with ⟨stop,qq⟩ | ⟨go,Nx,hNx,step⟩
  ·refine thnF (T.done (X.blk s3 H3 scope ce fp) rfl rfl rfl hc i [] s5 _ H5 (λ_ _=>False) I5 (stat I5 n5) st5 stop) λr s6 ⟨hr,I6⟩ => ?_
   subst hr
   have I7:Inv X pins σ H5 s6:=I3.call' (ch:=fp) I6.os I6.base I6.hok I6.bare λb hb=>⟨(f3 b hb).1.2.2.2.1,(f3 b hb).1.2.1,(f3 b hb).1.2.2.2.2.1,(f3 b hb).1.2.2.2.2.2⟩
   obtain ⟨m,hn,_⟩:=I6.loc
   have nC:H5 ce.locals=none:=I6.free
   refine fin D ce s6 m H5 I7 qq hn ?_
   rw [cL] at nC ⊢
   exact I3.fpOk (yaw _) nC
  ·refine thnF (T.item (X.blk s3 H3 scope ce fp) rfl rfl rfl hc i [] s5 _ H5 (λ_ _=>False) I5 (stat I5 n5) st5 go) λr s6 ⟨u,hr,h6⟩ => ?_
   subst hr
   refine thnF h6 λ_ s7 ⟨x,H7,I7,r7,y7,st7,n7⟩ => ?_
   have I7':=I7.pinned (stat I7 n7) (T.obj _ _ st7)
   refine thnF (pg.run _ s7 _ H7 x u _ I7' r7 (step x H7 y7)) λ_ s8 ⟨σ8,H8,I8,hw8,q8⟩ => ?_
   refine thnF (pt.run _ s8 σ8 H8 _ I8 q8) λb s9 ⟨H9,I9,q9⟩ => ?_
   have next:∀ {s':Shared} {H':Hp},Inv (X.blk s3 H3 scope ce fp) ([]++pinsAt fp s7.heap) σ8 H' s'->Nx H'->∃ m,m<n/\∃ i H',Inv (X.blk s3 H3 scope ce fp) [] (wipe σ (own.map (·.2))) H' s'/\tn i s'.heap/\(∀ b∈fp,H' b=none)/\Wt i m H':=λ{s' H'} I' nx=>by
    obtain ⟨m',hm,w'⟩:=hNx H' nx
    have pin':∀ b∈fp,∀ o,s7.heap.get? b=some o->s'.heap.get? b=some o/\H' b=none:=λb hb o e =>
     let z:=I'.pin (b,o) (yag _ (yag _ (mem_pinsAt hb e)))
     ⟨z.1,z.2.1⟩
    refine ⟨m',hm,i+1,H',(I'.unpinned (pins:=[])).weak (by rw [← hw8,wipe_length]) (λj v e => ?_),T.keep _ _ _ st7 λb hb o e=>(pin' b hb o e).1,λb hb => ?_,w'⟩
    ·rw [← hw8] at e
     exact (wipe_some e).1
    ·obtain ⟨o,e,_⟩:=T.obj _ _ st7 b hb
     exact (pin' b hb o e).2
   cases b with
   | false =>
     simp only [ya9,ych] at q9 ⊢
     exact next I9 q9
   | true =>
     simp only [ycC] at q9 ⊢
     refine wpAny_mono (pe.run _ s9 σ8 H9 _ (I9.wish _) q9) (λz s10 ⟨yv,H10,I10,r10,acc,hD10,hz10,nx⟩ => ?_) λe s' a=>out e s' a
     exact app_ok (X:=X.blk s3 H3 scope ce fp) I10.unwish hD10 hz10 r10 λs11 I11=>next I11 nx
 exact codeAny_compStart_list loop (T.self X.A 0 _ _ _ st4 loop)
theorem pe_lcA {elt tg iter:Expr} {ifs:List Expr} {scope:Scope} {own:List (Str×Nat)} {pos:Pos} {wi:TI} {g:TG} {tt:TT} {te:L2.St->TE} (hst:X.stack=X.env::X.outer) (hf:X.env.frame=some X.env.locals) (lk:∀ c d,zfz (ZZ c d)) (tk:∀ u s',XEZ ZZ X W u s'->X.xe u s')
 (hc:X.calm=true) (hN:X.N.Nodup) (hi:PI X tg iter wi) (ok:BlkOk X.N X.env.scope scope own)
 (hg:∀ (s:Shared) (H:Hp) (C:Addr) (cl:List (Str×Addr)) (fp:List Addr),PG (X.blk s H scope (compEnvC scope cl C X.env) fp) tg g) (ht:∀ (s:Shared) (H:Hp) (C:Addr) (cl:List (Str×Addr)) (fp:List Addr),PTs (X.blk s H scope (compEnvC scope cl C X.env) fp) ifs tt)
 (he:∀ (σ:L2.St) (s:Shared) (H:Hp) (C:Addr) (cl:List (Str×Addr)) (fp:List Addr),PE (blkA ZZ X W σ s H scope (compEnvC scope cl C X.env) fp) elt (te σ)) (hs:∀ x,foldedSetIterable iter X.env x=pure x:=by intro _; rfl) :
 PE X (.ListComp elt [⟨tg,iter,ifs,0⟩] scope pos) (λσ H Q=>tLc wi g tt (te σ) (own.map (·.2)) σ H Q):=by
 refine ⟨λpins s σ H Q I h => ?_⟩
 rw [eval_ListComp]
 refine zoi hst hf lk tk hc hN I hi ok hg ht (he σ) hs h λD ce s' m H' I' q hn f=>⟨m,hn,λh'' sb => ?_⟩
 obtain ⟨f0,f1,f2,f3,f4,f5⟩:=f
 exact ⟨.ref D,H',I'.turned (t':=s'.toks) (λb o hb e=>(sb.2 b hb).trans e) f0 f1 f3 f4 f5,rfl,q⟩
theorem zqO {i:Nat} {y:Str} {py:Pos} {elt tg iter:Expr} {ifs:List Expr} {scope:Scope} {own:List (Str×Nat)} {pos spos:Pos} {wi:TI} {g:TG} {tt:TT} {te:L2.St->TE} (hst:X.stack=X.env::X.outer) (hf:X.env.frame=some X.env.locals) (lk:∀ c d,zfz (ZZ c d)) (tk:∀ u s',XEZ ZZ X W u s'->X.xe u s')
 (hc:X.calm=true) (hN:X.N.Nodup) (hy:X.N[i]?=some y) (hyl:X.env.scope.names.lookup y=some .local)
 (hsw:swapsWith (.ListComp elt [⟨tg,iter,ifs,0⟩] scope pos) (some (.Name y py)) spos.line X.env=pure true) (hi:PI X tg iter wi) (ok:BlkOk X.N X.env.scope scope own)
 (hg:∀ (s:Shared) (H:Hp) (C:Addr) (cl:List (Str×Addr)) (fp:List Addr),PG (X.blk s H scope (compEnvC scope cl C X.env) fp) tg g) (ht:∀ (s:Shared) (H:Hp) (C:Addr) (cl:List (Str×Addr)) (fp:List Addr),PTs (X.blk s H scope (compEnvC scope cl C X.env) fp) ifs tt)
 (he:∀ (σ:L2.St) (s:Shared) (H:Hp) (C:Addr) (cl:List (Str×Addr)) (fp:List Addr),PE (blkA ZZ X W σ s H scope (compEnvC scope cl C X.env) fp) elt (te σ)) (hs:∀ x,foldedSetIterable iter X.env x=pure x:=by intro _; rfl) :
 PS X (.Assign [.Name y py] (.ListComp elt [⟨tg,iter,ifs,0⟩] scope pos) spos) (λD σ H=>tLc wi g tt (te σ) (own.map (·.2)) σ H λx H1=>gName i x σ H1 D.nx):=by
 refine ⟨λpins s σ H D I h => ?_⟩
 rw [exec_Assign_Name_used _ _ _ _ hsw]
 refine wpAny_bind (wpAny_standAt (wpAny_bind ?_))
 show wpAny _ X.A (do let _ ← comprehension (.ListComp elt [⟨tg,iter,ifs,0⟩] scope pos) scope X.env (firstIterPos [⟨tg,iter,ifs,0⟩] pos) (newList []) false (eval iter X.env) (some (assign (.Name y py) X.env))) _ _ s
 refine wpAny_bind (wpAny_mono (zoi (Qf:=λ_ s'=>SP X pins D .next s') hst hf lk tk hc hN I hi ok hg ht (he σ) hs h λL ce s' m H' I' q hn f => ?_) (λ_ s' hq=>wpAny_pure (wpAny_pure hq)) λ_ _ z=>z)
 show wpAny _ _ (assign (.Name y py) X.env (.ref L)) _ _ _
 refine wpAny_assign_Name (store_ok2 (v:=V.ref L) I' hN hy (.inl hyl) rfl (λs2 I2 ⟨a,sb,ha⟩ => ?_) (.inr hyl))
 obtain ⟨f0,f1,f2,f3,f4,f5⟩:=f
 have ne:ce.locals≠a:=by
  rcases ha with z | z
  ·rw [z]; exact f1
  ·exact λe=>f4 y a z e.symm
 exact ⟨m,hn.sameBut sb ne,λh3 sb3=>⟨_,H',I2.turned (t':=s2.toks) (λb o hb e=>(sb3.2 b hb).trans e) f0 f1 f3 f4 f5,q⟩⟩
end
def zio (t:Tg) (tt:WT) (te:WE) (own:List Nat) (X:XQ):List D->List D->En->(List D->En->Prop)->Prop
 | [],acc,e,k=>k acc e
 | d::ds,acc,e,k=>match t.asg (.fz d) e with
   | some e1=>tt e1 (λb e2=>if b=true then te e2 (λm e3=>zio t tt te own X ds (acc++[m.d]) (zaO e3 own) k) (λx e3=>X x (zaO e3 own)) else zio t tt te own X ds acc (zaO e2 own) k) noX
   | none=>False
def wLcX (wi:WI) (t:Tg) (tt:WT) (te:WE) (own:List Nat):WE:=λe Q X=>wi e (λds e1=>ds.length<=sizeLine/\zio t tt te own (λx e3=>X x (za1 e1 own e3)) ds [] (zaO e1 own) λacc e2=>Q (.lst acc) (za1 e1 own e2)) X
theorem zhu {t:Tg} {tt:WT} {te:WE} {own:List Nat} (ht:zek tt) (he:zcA te):∀ (ds acc:List D) (e:En) (X X':XQ) (k k':List D->En->Prop),(∀ x e,X x e->X' x e)->(∀ a e,k a e->k' a e)->zio t tt te own X ds acc e k->zio t tt te own X' ds acc e k'
 | [],acc,e,X,X',k,k',hx,h,q=>h _ _ q
 | d::ds,acc,e,X,X',k,k',hx,h,q=>by
   unfold zio at *
   split at q
   ·refine ht _ _ _ _ _ (λb e2 q => ?_) (λ_ _ q=>q) q
    cases b with
    | true =>
      rw [yaM rfl] at q ⊢
      exact he _ _ _ _ _ (λm e3 q=>zhu ht he _ _ _ _ _ _ _ hx h q) (λ_ _ q=>hx _ _ q) q
    | false =>
      rw [yaH yat] at q ⊢
      exact zhu ht he _ _ _ _ _ _ _ hx h q
   ·exact q.elim
theorem zl2 {wi:WI} {t:Tg} {tt:WT} {te:WE} {own:List Nat} (hi:zoK wi) (ht:zek tt) (he:zcA te):zcA (wLcX wi t tt te own):=λe Q Q' X X' hq hx q =>
 hi _ _ _ _ _ (λds e1 q=>⟨q.1,zhu ht he _ _ _ _ _ _ _ (λ_ _ q=>hx _ _ q) (λ_ _ q=>hq _ _ q) q.2⟩) hx q
theorem zoj {y:Y} {tge:Expr} {wi:WI} {t:Tg} {tt:WT} {te:WE} {own:List Nat} {σ:L2.St} {H:Hp} {Q:VK} (htp:(isTp tge && !t.isTp)=false) (hi:zoK wi) (ht:zek tt) (he:zcA te) (hs:∀ i∈t.slots,i∈own)
 (h:zgl y (wLcX wi t tt te own) σ H Q):tLc (zuH y tge wi) (t.tg y.X.K) (zpH ⟨y.X,y.xr,λ_ _ _ _=>False⟩ tt) (zgl ⟨y.X,y.xr,λc d _ H'=>y.W c d σ H'⟩ te) own σ H Q:=by
 obtain ⟨e,P,h0,q⟩:=h
 refine ⟨e,P,h0,hi _ _ _ _ _ (λds e1 q J H1 R wk o dd hD => ?_) (λ_ _ q=>q) q⟩
 obtain ⟨hlen,q⟩:=q
 obtain ⟨G,g⟩:=o.2.opn
 have oD:Ok y.X.K (upd H1 dd (.lst [])) σ e1 ((.ref dd,.lst [])::(R++P)):=⟨o.1,(g.res _ _ _ (.lst hD .nil)).perm yae.symm⟩
 obtain ⟨S,oS,back⟩:=oD.hide own
 let Bd:=λ(i:Nat) (H':Hp)=>∃ (e':En) (acc:List D),e'.length=e1.length/\acc.length<=i/\Ok y.X.K H' (wipe σ own) e' (S++((.ref dd,.lst acc)::(R++P))) /\
  zio t tt te own (λx e3=>zkH y σ P x (za1 e1 own e3)) (ds.drop i) acc e' λacc e2=>∀ v H',Ok y.X.K H' σ (za1 e1 own e2) ((v,.lst acc)::P)->Q v H'
 refine ⟨λi m H'=>m=ds.length-i/\i<=ds.length/\Bd i H',⟨ds.length,by simp,ya4 _,_,[],zbQ _ _,yaw _,oS,q⟩,?_⟩
 rintro i m H' ⟨rfl,hi,e',acc,el,al,o',q'⟩
 have hsep:Sep y.X.K H' (R++(prs (wipe σ own) e'++(S++((.ref dd,.lst acc)::P)))):=o'.2.perm (by
  have p1:(S++((V.ref dd,M.lst acc)::(R++P))).Perm (R++(S++((V.ref dd,M.lst acc)::P))):=by
   refine (yae (l₁:=S)).trans ?_
   refine List.Perm.trans ?_ ((yae (l₁:=S)).symm.append_left R)
   refine List.Perm.trans ?_ yae.symm
   refine List.Perm.cons _ ?_
   rw [← yah,← yah]
   exact yaz.append_right _
  exact (p1.append_left _).trans (zhn _ _ _))
 by_cases hlt:i<ds.length
 ·rw [ybe hlt] at q'
  obtain ⟨g1,g2⟩:=wk.go i H' _ ds[i] hsep (yad hlt)
  refine .inr ⟨g1,λH2=>Bd (i+1) H2,λH2 n=>⟨ds.length-(i+1),by omega,rfl,hlt,n⟩,λx H2 yl => ?_⟩
  have sx:=g2 x H2 yl
  unfold zio at q'
  split at q'
  ·rename_i e2 ea
   have pm:(R++(prs (wipe σ own) e'++(S++((V.ref dd,M.lst acc)::P)))).Perm (prs (wipe σ own) e'++(S++((V.ref dd,M.lst acc)::(R++P)))):=by
    have p1:(R++(S++((V.ref dd,M.lst acc)::P))).Perm (S++((V.ref dd,M.lst acc)::(R++P))):=by
     refine List.Perm.trans ?_ (yae (l₁:=S)).symm
     refine ((yae (l₁:=S)).append_left R).trans ?_
     refine yae.trans ?_
     refine List.Perm.cons _ ?_
     rw [← yah,← yah]
     exact yaz.append_right _
    exact List.Perm.trans (zhn _ _ _) (p1.append_left _)
   refine t.okG sx o'.1 pm htp ea λσ3 o3 bt => ?_
   have w3:wipe σ3 own=wipe (wipe σ own) own:=zix bt hs
   have ww:wipe (wipe σ own) own=wipe σ own:=zix (own:=own) ⟨wipe_length _ _,λj z=>by
    have k2:∀ vs:List Nat,j∉vs->(wipe σ vs)[j]?=σ[j]?:=by
     intro vs
     induction vs with
     | nil=>intro _; rfl
     | cons k vs ih =>
       intro hn
       unfold wipe
       rw [yaB λz=>hn (by simp [z])]
       exact ih λz=>hn (yab _ z)
    exact k2 own z⟩ λ_ z=>z
   refine ⟨w3.trans ww,?_⟩
   refine ⟨e2,_,o3,ht _ _ _ _ _ (λb e3 q H3 o4 => ?_) (λ_ _ q=>q.elim) q'⟩
   cases b with
   | true =>
     rw [yaM rfl] at q ⊢
     refine ⟨e3,_,o4,he _ _ _ _ _ (λm e4 q v H4 o5 => ?_) (λx e4 q c d H4 r o5 => ?_) q⟩
     rotate_left
     ·have o6:=o5.wiped own
      rw [w3,ww] at o6
      have o7:=back H4 (zaO e4 own) _ (by rw [zbQ,o5.1.length,bt.1,← o'.1.length,el]) o6
      exact q c d H4 r (Ok.pops (P:=R) (Ok.pop o7))
     have o6:Ok y.X.K H4 σ3 e4 ((.ref dd,.lst acc)::(v,.fz m.d)::(S++(R++P))):=(Ok.freeze o5).perm (by
      refine List.Perm.trans ?_ (List.Perm.swap _ _ _)
      exact List.Perm.cons _ yae)
     obtain ⟨G,p,F,ep,w,ex,oth,up,_,_⟩:=(o6.2.perm yae).mut rfl
     cases ep
     cases w with
     | lst hp rs =>
       refine ⟨_,hp,?_,e4.length |> λ_ => ?_⟩
       ·rw [rs.length]
        exact yb2 (Nat.lt_of_le_of_lt al hlt) hlen
       ·obtain ⟨F2,w2⟩:=oth (v,.fz m.d) (yag _ yaa)
        cases w2 with
        | fz w2 =>
          have z:=up _ _ (rs.append (.one w2))
          have o7:Ok y.X.K (upd H4 dd (.lst (_++[v]))) σ3 e4 ((.ref dd,.lst (acc++[m.d]))::(v,.fz m.d)::(S++(R++P))):=⟨o6.1,z.perm yae.symm⟩
          have o8:Ok y.X.K (upd H4 dd (.lst (_++[v]))) σ3 e4 (S++((.ref dd,.lst (acc++[m.d]))::(R++P))):=Ok.perm (Ok.pop (Ok.perm o7 (List.Perm.swap _ _ _))) yae.symm
          refine ⟨zaO e4 own,acc++[m.d],?_,by simp; exact al,?_,q⟩
          ·rw [zbQ,o8.1.length,bt.1,← o'.1.length,el]
          ·have o9:=o8.wiped own
           rw [w3,ww] at o9
           exact o9
   | false =>
     rw [yaH yat] at q ⊢
     refine ⟨zaO e3 own,acc,?_,ycb al,?_,q⟩
     ·rw [zbQ,o4.1.length,bt.1,← o'.1.length,el]
     ·have o9:=o4.wiped own
      rw [w3,ww] at o9
      exact o9
  ·exact q'.elim
 ·have e0:i=ds.length:=by omega
  subst e0
  rw [ybU] at q'
  refine .inl ⟨wk.stop _ H' _ hsep (yaw _),?_⟩
  refine q' (.ref dd) H' ?_
  have o9:=back H' e' ((.ref dd,.lst acc)::(R++P)) el o'
  exact Ok.pops (P:=R) (o9.perm yae.symm)
abbrev zf8 (ZZ:ZT) (y:Y) (σ:L2.St) (s:Shared) (H:Hp) (scope:Scope) (C:Addr) (cl:List (Str×Addr)) (fp:List Addr):Y:=⟨blkA ZZ y.X y.W σ s H scope (compEnvC scope cl C y.X.env) fp,y.xr,λc d _ H'=>y.W c d σ H'⟩
section
variable {ZZ:ZT} {y:Y} {κ:List (Nat×V)} {elt tg iter:Expr} {ifs:List Expr} {scope:Scope} {pos:Pos} {wi:WI} {t:Tg} {tt:WT} {te:WE}
theorem xlcX (lk:∀ c d,zfz (ZZ c d)) (tk:∀ u s',XEZ ZZ y.X y.W u s'->y.X.xe u s') (own:List (Str×Nat)) (ownS:List Nat) (hc:y.X.calm=true) (nd:y.X.N.Nodup) (hi:SI y tg iter wi) (ok:BlkOk y.X.N y.X.env.scope scope own)
 (hg:∀ s H C cl fp,PG (y.blk s H scope C cl fp).X tg (t.tg y.X.K)) (ht:∀ s H C cl fp,STs (y.blk s H scope C cl fp) ifs tt) (he:∀ σ s H C cl fp,SE (zf8 ZZ y σ s H scope C cl fp) elt te)
 (hst:y.X.stack=y.X.env::y.X.outer:=by rfl) (hf:y.X.env.frame=some y.X.env.locals:=by rfl)
 (hos:own.map (·.2)=ownS:=by rfl) (hs:∀ x,foldedSetIterable iter y.X.env x=pure x:=by exact λ_=>rfl) (ho:∀ i∈t.slots,i∈own.map (·.2):=by decide) (htp:(isTp tg && !t.isTp)=false:=by rfl):SE y (.ListComp elt [⟨tg,iter,ifs,0⟩] scope pos) (wLcX wi t tt te ownS):=by
 subst hos
 have mt:zek tt:=(ht y.X.s_0 (λ_=>none) 0 [] []).mono
 have me:zcA te:=(he [] y.X.s_0 (λ_=>none) 0 [] []).mono
 exact ⟨zbH (pe_lcA (te:=λσ=>zgl ⟨y.X,y.xr,λc d _ H'=>y.W c d σ H'⟩ te) hst hf lk tk hc nd hi.run ok (λs H C cl fp=>hg s H C cl fp) (λs H C cl fp=>(ht s H C cl fp).run) (λσ s H C cl fp=>(he σ s H C cl fp).run) hs) λσ H Q q=>zoj htp hi.mono mt me ho q,zl2 hi.mono mt me⟩
theorem zvD {x:Str} {py:Pos} {p2:Pos} (lk:∀ c d,zfz (ZZ c d)) (tk:∀ u s',XEZ ZZ y.X y.W u s'->y.X.xe u s') (i:Nat) (own:List (Str×Nat)) (ownS:List Nat) (hc:y.X.calm=true) (nd:y.X.N.Nodup) (hi:SI y tg iter wi) (ok:BlkOk y.X.N y.X.env.scope scope own)
 (hg:∀ s H C cl fp,PG (y.blk s H scope C cl fp).X tg (t.tg y.X.K)) (ht:∀ s H C cl fp,STs (y.blk s H scope C cl fp) ifs tt) (he:∀ σ s H C cl fp,SE (zf8 ZZ y σ s H scope C cl fp) elt te)
 (hst:y.X.stack=y.X.env::y.X.outer:=by rfl) (hf:y.X.env.frame=some y.X.env.locals:=by rfl)
 (hy:y.X.N[i]?=some x:=by rfl) (hyl:y.X.env.scope.names.lookup x=some .local:=by rfl) (hsw:swapsWith (.ListComp elt [⟨tg,iter,ifs,0⟩] scope p2) (some (.Name x py)) pos.line y.X.env=pure true:=by rfl)
 (hos:own.map (·.2)=ownS:=by rfl) (hs:∀ x,foldedSetIterable iter y.X.env x=pure x:=by exact λ_=>rfl) (ho:∀ i∈t.slots,i∈own.map (·.2):=by decide) (hκ:∀ p∈κ,p.1≠i:=by exact zlR rfl) (htp:(isTp tg && !t.isTp)=false:=by rfl) :
 SS y κ (.Assign [.Name x py] (.ListComp elt [⟨tg,iter,ifs,0⟩] scope p2) pos) (sSet i (wLcX wi t tt te ownS)):=by
 subst hos
 have mt:zek tt:=(ht y.X.s_0 (λ_=>none) 0 [] []).mono
 have me:zcA te:=(he [] y.X.s_0 (λ_=>none) 0 [] []).mono
 have mw:=zl2 (t:=t) (own:=own.map (·.2)) hi.mono mt me
 exact ⟨zdW (zqO (te:=λσ=>zgl ⟨y.X,y.xr,λc d _ H'=>y.W c d σ H'⟩ te) hst hf lk tk hc nd hy hyl hsw hi.run ok (λs H C cl fp=>hg s H C cl fp) (λs H C cl fp=>(ht s H C cl fp).run) (λσ s H C cl fp=>(he σ s H C cl fp).run) hs) λD σ H ⟨e,P,hk,h0,q⟩ =>
  zoj htp hi.mono mt me ho ⟨e,P,h0,mw _ _ _ _ _ (λm e1 q v H1 o=>q _ H1 (hk.set hκ) (zfr i o)) (λ_ _ q c d H' r o=>q σ c d H' hk r o) q⟩,
  λE E' e l q=>mw _ _ _ _ _ (λ_ _ q=>l.nx _ q) l.ex q⟩
theorem xcA {x:Str} {k:Nat} {fn:Fn} {p pos:Pos} {e:Expr} {es:List Expr} {ws:WA} {σ:L2.St} {s:Shared} {H:Hp} {C:Addr} {cl:List (Str×Addr)} {fp:List Addr}
 (F:Cal y.X.prog y.X.w y.X.K y.X.mg y.X.base y.xr k x fn) (hr:Room k y.X.A) (ha:SA (zf8 Zc y σ s H scope C cl fp) (e::es) ws) (hg:Gl (zf8 Zc y σ s H scope C cl fp).X x:=by rfl) (hdb:(x==("__debug__" : Str))=false:=by decide)
 (he:starEach (e::es) (zf8 Zc y σ s H scope C cl fp).X.env=(false,eval e (zf8 Zc y σ s H scope C cl fp).X.env)::starEach es (zf8 Zc y σ s H scope C cl fp).X.env:=by rfl)
 (hpl:(backTo pos (starEach es (zf8 Zc y σ s H scope C cl fp).X.env)).any (·.1)=false:=by rfl):SE (zf8 Zc y σ s H scope C cl fp) (.Call (.Name x p) (e::es) [] pos) (za0 fn ws):=by
 obtain ⟨hf,f,fd,ps,F,hm,hk,hb⟩:=F
 exact zkO F hr hg hm hk hb (λτ pins H s e s' I c=>⟨pins,τ,H,s,I.unwish,c⟩) hf ha hdb he hpl
end
def zl3 (f:D->R D):List D->R (List D)
 | []=>.ok []
 | d::ds=>(f d).bind λx=>(zl3 f ds).bind λxs=>.ok (x::xs)
def lcMX (f:D->R D) (ds:List D):R (List D):=need (Nat.ble ds.length sizeLine) (zl3 f ds)
section
variable {β:Type} {P:β->Prop} {XP:Xn->Prop} {te:WE} {tt:WT} {own:List Nat} {kk:List D->En->Prop} {g:Tg} {e:En} {Q:M->En->Prop} {XX:XQ}
def lcKX (g:Tg) (tt:WT) (te:WE) (own:List Nat) (Q:M->En->Prop) (XX:XQ) (ds:List D) (e1:En):Prop:=ds.length<=sizeLine/\zio g tt te own (λx e3=>XX x (za1 e1 own e3)) ds [] (zaO e1 own) λacc e2=>Q (.lst acc) (za1 e1 own e2)
theorem k_lcX {wi:WI} (q:wi e (λds e1=>lcKX g tt te own Q XX ds e1) XX):wLcX wi g tt te own e Q XX:=q
theorem zqP {ff:D->R D} {e0:En} {X0:XQ} (hx0:∀ x,XP x->X0 x e0) (hb:∀ d (S:D->Prop) (KK:M->En->Prop) (XK:XQ),(∀ m e3,zaO e3 own=e0->S m.d->KK m e3)->(∀ x e3,zaO e3 own=e0->XP x->XK x e3)->(ff d).post S XP->asgK g (.fz d) e0 λe1=>te e1 KK XK) :
 ∀ (ds acc:List D),(zl3 ff ds).post (λxs=>kk (acc++xs) e0) XP->zio g zdp te own X0 ds acc e0 kk
 | [],acc,h=>by
   have h:kk (acc++[]) e0:=h
   rw [yaE] at h
   exact h
 | d::ds,acc,h=>by
   unfold zl3 at h
   rw [zbe] at h
   have z:=hb d _ (λm e3=>zio g zdp te own X0 ds (acc++[m.d]) (zaO e3 own) kk) (λx e3=>X0 x (zaO e3 own)) (λm e3 hw h => ?_) (λx e3 hw q=>by rw [hw]; exact hx0 x q) h
   ·unfold asgK at z
    unfold zio
    split at z
    ·rename_i e1
     try rw [e1]
     exact z
    ·exact z.elim
   ·rw [hw]
    rw [zbe] at h
    refine zqP hx0 hb ds _ (zaG h (λxs h => ?_) λ_ z=>z)
    rw [yah]
    exact h
theorem j_lcMX {ff:D->R D} {ds:List D} {f:List D->R β} (h:((lcMX ff ds).bind f).post P XP) (hx:∀ x,XP x->XX x (za1 e own (zaO e own)))
 (hb:∀ d (S:D->Prop) (KK:M->En->Prop) (XK:XQ),(∀ m e3,zaO e3 own=zaO e own->S m.d->KK m e3)->(∀ x e3,zaO e3 own=zaO e own->XP x->XK x e3)->(ff d).post S XP->asgK g (.fz d) (zaO e own) λe1=>te e1 KK XK)
 (q:∀ xs,(f xs).post P XP->Q (.lst xs) (za1 e own (zaO e own))):lcKX g zdp te own Q XX ds e:=by
 obtain ⟨c,h⟩:=zbx h
 rw [zbe] at h
 exact ⟨yaD c,zqP (X0:=λx e3=>XX x (za1 e own e3)) hx hb ds [] (zaG h (λxs h=>q xs h) λ_ z=>z)⟩
end
abbrev yOfN (P:Program) (w:World) (K:PySem.W.Frag) (mg:Str->Option Value) (base:Heap) (xr:Xn->Value->Option Addr->Hp->Prop) (N:List Str) (qual:Str) (scope:Scope) (f:Addr) (cdv:Value) (A:Around) (outer:List Env) (s:Shared) (H:Hp) (E:XK):Y :=
 ⟨cxOf (L2N.CX P w) P w K mg base N qual scope f cdv A outer s H E,xr,λc d _ H=>E c d H⟩
section
variable {P:Program} {w:World} {K:PySem.W.Frag} {mg:Str->Option Value} {base:Heap} {xr:Xn->Value->Option Addr->Hp->Prop}
theorem fn_okN {x qual:Str} {st:Stmt} {f:Addr} {fd:FuncData} {N ps:List Str} {k:Nat} {kp:List Nat} {wb:WS} (F:Fun K x qual st f fd) (S:FnScope N ps (defScope st))
 (hb:∀ cdv A outer s H E vs,vs.length=ps.length->Room k (A.deeper (envOfC qual (defScope st) s.heap.objs.size f cdv))->SSs (yOfN P w K mg base xr N qual (defScope st) f cdv A outer s H E) (zcB kp vs) (defBody st) wb) :
 FnOk P w K mg base (L2N.CX P w) (k+1) f fd ps (spOf K xr ⟨ps.length,kp,wFn N.length ps.length kp wb⟩):=by
 obtain ⟨oc,od,kV,doc,pm,an,cdv,ct,osl,rfl,lk,hcd⟩:=F.ex
 refine fn_of lk hcd S (λvs H Q E h=>h.1) λA outer s H vs Q E hr h => ?_
 obtain ⟨hl,ms,R,hm,sp,q⟩:=h
 have hl:vs.length=ps.length:=hl
 have B:=hb cdv A outer s H E vs hl hr
 refine ⟨_,B.run,?_⟩
 obtain ⟨p1,p2⟩:=zgO (vs:=vs) (ms:=ms) (N.length-vs.length) hm
 have ok:Ok K H (start N vs) (ms.map some++List.replicate (N.length-ps.length) none) R:=by
  rw [← hl]
  refine ⟨p2,?_⟩
  show Sep K H (prs (vs.map some++List.replicate (N.length-vs.length) none) (ms.map some++List.replicate (N.length-vs.length) none)++R)
  rw [p1]
  exact sp
 refine ⟨_,R,zkc,ok,?_⟩
 refine B.mono { nx:=λe'=>_,rt:=λm e'=>_,bk:=λ_=>False,ct:=λ_=>False,ex:=λx _=>_ } _ _ ⟨λe' q σ' H' hk o => ?_,λm e' q σ' v H' hk o => ?_,λ_ z=>z.elim,λ_ z=>z.elim,λx e' q σ' c d H' hk r o => ?_⟩ q
 ·have o':Ok K H' σ' e' ((.non,.fz .non)::R):=by
   obtain ⟨G,g⟩:=o.2.opn
   exact ⟨o.1,(g.res _ _ _ (.same .non)).perm yae.symm⟩
  refine q .non H' ?_
  have z:=znX o' hk
  rw [hl] at z
  exact z.perm yae
 ·refine q v H' ?_
  have z:=znX o hk
  rw [hl] at z
  exact z.perm yae
 ·exact q c d H' r o.zero
def CalN (P:Program) (w:World) (K:PySem.W.Frag) (mg:Str->Option Value) (base:Heap) (xr:Xn->Value->Option Addr->Hp->Prop) (k:Nat) (x:Str) (fn:Fn):Prop :=
 zcS fn.sp/\∃ f fd ps,FnOk P w K mg base (L2N.CX P w) k f fd ps (spOf K xr fn)/\mg x=some (.ref f)/\PySem.W.keepIn K (.ref f)=true/\Binds K fd ps []
theorem CalN.up {j k:Nat} {x:Str} {fn:Fn} (h:CalN P w K mg base xr j x fn) (l:j<=k):CalN P w K mg base xr k x fn:=by
 obtain ⟨m,f,fd,ps,F,r⟩:=h
 exact ⟨m,f,fd,ps,F.mono l,r⟩
theorem zvE {x:Str} {st:Stmt} {f:Addr} {fd:FuncData} {N ps:List Str} {k:Nat} {kp:List Nat} {wb:WS} {sp:List M->(M->En->Prop)->(Xn->Prop)->Prop}
 (F:Fun K x x st f fd) (hm:mg x=some (.ref f)) (hb:Binds K fd ps []) (S:FnScope N ps (defScope st))
 (hb2:∀ cdv A outer s H E vs,vs.length=ps.length->Room k (A.deeper (envOfC x (defScope st) s.heap.objs.size f cdv))->SSs (yOfN P w K mg base xr N x (defScope st) f cdv A outer s H E) (zcB kp vs) (defBody st) wb)
 (hf:zcS sp) (h:∀ ms Q X,ms.length=ps.length->sp ms Q X->wFn N.length ps.length kp wb ms Q X):CalN P w K mg base xr (k+1) x ⟨ps.length,kp,sp⟩ :=
 ⟨hf,f,fd,ps,(fn_okN F S hb2).imp λvs H Q E q=>by
  obtain ⟨hl,ms,R,hm,sp,q⟩:=q
  exact ⟨hl,ms,R,hm,sp,h _ _ _ (hm.trans hl) q⟩,hm,F.kp,hb⟩
def zsY (fn:Fn):Fn:=⟨fn.n,fn.kp,λms Q _=>fn.sp ms Q λ_=>False⟩
theorem zo0 {fn:Fn} (h:zcS fn.sp):zcS (zsY fn).sp:=λms Q Q' _ _ hq _ q=>h ms Q Q' _ _ hq (λ_ z=>z) q
theorem Cal.calm {k:Nat} {x:Str} {fn:Fn} (h:Cal P w K mg base xr k x fn):CalN P w K mg base xr k x (zsY fn):=by
 obtain ⟨m,f,fd,ps,F,r⟩:=h
 refine ⟨zo0 m,f,fd,ps,⟨λvs H Q E q => ?_,λA outer s H args us vs Q E hr e0 hb hv q => ?_⟩,r⟩
 ·obtain ⟨hl,ms,P,hm,sp,q⟩:=q
  exact F.len vs H Q E ⟨hl,ms,P,hm,sp,m _ _ _ _ _ (λ_ _ q=>q) (λ_ z=>z.elim) q⟩
 ·obtain ⟨hl,ms,P,hm,sp,q⟩:=q
  refine codeAny_mono (F.run A outer s H args us vs Q (λ_ _ _=>False) hr e0 hb hv ⟨hl,ms,P,hm,sp,m _ _ _ _ _ (λ_ _ q=>q) (λ_ z=>z.elim) q⟩) λr s' c => ?_
  cases r with
  | ok f=>cases f<;>exact c
  | error e =>
    obtain ⟨_,_,_,_,_,_,_,_,_,_,_,_,z⟩:=c
    exact z.elim
end
section
variable {y:Y} {x:Str} {k:Nat} {fn:Fn} {p pos:Pos} {e:Expr} {es:List Expr} {ws:WA}
theorem zue {E₁:Value->Shared->Prop} {X:Cx} {E:XK} (hs:X.stack=X.env::X.outer) (hf:X.env.frame=some X.env.locals) (hex:X.ex=[])
 (hx:X.xe=λe s'=>wpAny (model X.prog X.w) X.A (leaving X.env e) (λ_ s''=>L2N.CX X.prog X.w X.outer X.H_0 X.s_0 E e s'') E₁ s'):L2N.Takes X (λcls d _ H=>E cls d H):=L2N.takes_of hs hf hex hx
theorem xcN (F:CalN y.X.prog y.X.w y.X.K y.X.mg y.X.base y.xr k x fn) (hr:Room k y.X.A) (ha:SA y (e::es) ws)
 (tk:L2N.Takes y.X y.W:=by exact zue rfl rfl rfl rfl) (hg:Gl y.X x:=by rfl) (hdb:(x==("__debug__" : Str))=false:=by decide)
 (he:starEach (e::es) y.X.env=(false,eval e y.X.env)::starEach es y.X.env:=by rfl) (hpl:(backTo pos (starEach es y.X.env)).any (·.1)=false:=by rfl):SE y (.Call (.Name x p) (e::es) [] pos) (za0 fn ws):=by
 obtain ⟨hf,f,fd,ps,F,hm,hk,hb⟩:=F
 exact zkO F hr hg hm hk hb (λσ=>L2N.passAt tk σ) hf ha hdb he hpl
theorem xcAN {σ:L2.St} {s:Shared} {H:Hp} {scope:Scope} {C:Addr} {cl:List (Str×Addr)} {fp:List Addr}
 (F:CalN y.X.prog y.X.w y.X.K y.X.mg y.X.base y.xr k x fn) (hr:Room k y.X.A) (ha:SA (zf8 L2N.Zn y σ s H scope C cl fp) (e::es) ws) (hg:Gl (zf8 L2N.Zn y σ s H scope C cl fp).X x:=by rfl) (hdb:(x==("__debug__" : Str))=false:=by decide)
 (he:starEach (e::es) (zf8 L2N.Zn y σ s H scope C cl fp).X.env=(false,eval e (zf8 L2N.Zn y σ s H scope C cl fp).X.env)::starEach es (zf8 L2N.Zn y σ s H scope C cl fp).X.env:=by rfl)
 (hpl:(backTo pos (starEach es (zf8 L2N.Zn y σ s H scope C cl fp).X.env)).any (·.1)=false:=by rfl):SE (zf8 L2N.Zn y σ s H scope C cl fp) (.Call (.Name x p) (e::es) [] pos) (za0 fn ws):=by
 obtain ⟨hf,f,fd,ps,F,hm,hk,hb⟩:=F
 exact zkO F hr hg hm hk hb (λτ pins H s e s' I c=>⟨pins,τ,H,s,I.unwish,c⟩) hf ha hdb he hpl
end
theorem zvF {X:Cx} {CX:CXT} {x:Str} {e:Expr} {es:List Expr} {ta:TA} {p pos:Pos} {C fI:Addr} {k:Nat} {fd:FuncData} {ps:List Str} {sp:Sp} (T:OexC X.K C) (iC:PySem.W.findIn X.K (.ref C) "__init__" = some (some (.ref fI))) (tI:PySem.W.typeIn X.K (.ref fI)=some (.type "function"))
 (F1:FnOk X.prog X.w X.K X.mg X.base CX k fI fd ps sp) (hr:Room (k+1) X.A) (hb:Binds X.K fd ps []) (hx:Passes CX X (λ_ _ _=>False)) (hg:Gl X x) (hm:X.mg x=some (.ref C)) (ha:PA X (e::es) ta)
 (hdb:(x==("__debug__" : Str))=false:=by decide) (he:starEach (e::es) X.env=(false,eval e X.env)::starEach es X.env:=by rfl) (hpl:(backTo pos (starEach es X.env)).any (·.1)=false:=by rfl) :
 L2N.PMk X (.Call (.Name x p) (e::es) [] pos) (tMkO C sp [] ta):=by
 intro pins s σ H Q I h
 obtain ⟨_,_,_,_,bm,_,_,_,_,_,_,_,_,_,_,hC,hbm⟩:=T.cls
 refine wpAny_Call_Name_kw (ld_glob I hg hm ?_ hdb)
 refine PySem.W.callWith_K (h₀:=X.base) I.ok.mod.kin T.kC (thn (ha.run pos pins s σ H _ I h) λus s1 ⟨vs,H1,I1,r1,hz,q1⟩=>⟨I1.kIn,?_⟩) he hpl
 show wpAny _ _ (call (.ref C) us) _ _ _
 obtain ⟨hp,g,dr,tk,os⟩:=s1
 obtain ⟨a,ea⟩:∃ a,a=hp.objs.size+1:=⟨_,rfl⟩
 have above:hp.objs.size<=a:=by omega
 have hq:=q1 a (I1.hok.fresh above)
 rw [yaE] at hq
 obtain ⟨h1,e1⟩:∃ h1,h1=(hp.push (PySem.W.kdv_tup us)).push (PySem.HandSPX.excO C hp.objs.size):=⟨_,rfl⟩
 have kept:∀ b o,hp.get? b=some o->h1.get? b=some o:=λb o e=>by rw [e1]; exact Heap.get?_push_of_some _ (Heap.get?_push_of_some _ e)
 have made:h1.get? a=some (PySem.HandSPX.excO C hp.objs.size):=by
  rw [e1,ea]
  heap_get
 have I2:Inv X pins σ (upd H1 a (exo a C none)) ⟨h1,g,dr,tk,os⟩:=I1.laid (t':=tk) (a:=a) (o:=exo a C none) (h':=h1) kept above (exo_ok made)
 have r2:Vals (V.ref a::vs) (Value.ref a::us):=.cons rfl r1
 have hl:(Value.ref a::us++[]).length=ps.length:=by
  rw [yaE,← r2.length]
  exact F1.len _ _ _ _ hq
 have few:us.length<=sizeLine:=by
  rw [← Paired.length r1,sizeLine_eq]
  omega
 have b2:=hb _ (Value.ref a::us) I2.kIn hl
 rw [yaE] at b2
 have R:=F1.run _ X.stack _ _ ⟨Value.ref a::us,[]⟩ (Value.ref a::us) _ _ (λ_ _ _=>False) (hr.make C us []) (I2.env0.make C us []) b2 r2 hq
 rw [ea,e1] at R
 refine wpAny_call (PySem.HandSPX.call_own F.excBase_ValueError (λY=>PySem.HandSPX.refsVE_contains Y bm hbm) (I1.kIn _ _ hC) (PySem.W.looks_findIn I1.kIn iC) (λself=>PySem.W.bind_fn I1.kIn self tI) few (codeAny_mono R λr s' z => ?_))
 rw [← ea,← e1] at z
 match r,z with
 | .error er,z=>exact hx pins σ _ _ er s' I2 z
 | .ok (.ret u),z =>
   obtain ⟨v,H2,os2,bare2,un2,hok2,rv,rfl,d,fs,na,ed,hd1,q2⟩:=z
   obtain ⟨h2,g2,d2,t2,os'⟩:=s'
   obtain ⟨t0,G,J,kG,ge,hoe,none_⟩:=mk_end0 (d2:=d2) (t2:=t2) I1 above kept un2 hok2 os2 bare2 na ed hd1
   rw [← ea]
   exact ⟨rv,a,_,_,⟨G,g2,d2,t2,os'⟩,_,.ref C,some d,rfl,J,kG,ge,hoe,⟨rfl,rfl,λvs hv=>by cases hv; rfl⟩,rfl,rfl,none_,rfl,bare2,raises_own T.exC T.tyC,q2⟩
 | .ok .next,z=>exact z.elim
 | .ok .brk,z=>exact z.elim
 | .ok .cont,z=>exact z.elim
section
variable {y:Y} {κ:List (Nat×V)} {pos p p2 p3:Pos} {NS NP:List Str} {a:Expr} {w:WE}
theorem zjc {x f:Str} {D:L2.Ends} {σ:L2.St} {H:Hp} (xs:Xs y.X.K y.X.mg y.xr NS NP) (hn:NS.contains x=true) (T:OexC y.X.K (He.ga y.X.K x)) (hno:PySem.W.findIn y.X.K (.ref (He.ga y.X.K x)) f=some none) (ha:SE y a w) (h:zlI y κ (zcz x f w) D σ H) :
 tMkO (He.ga y.X.K x) (spXI y.X.K (He.ga y.X.K x) f) [] (tCons (zgl y w) tNil) σ H λcls d H'=>y.W cls d σ H':=by
 obtain ⟨e,P,hk,h0,q⟩:=h
 refine ⟨e,P,h0,ha.mono _ _ _ _ _ (λm e1 q v H1 o => ?_) (λx' e1 q c d H' r o=>q σ c d H' hk r o) q⟩
 obtain ⟨⟨v0,hv⟩,q⟩:=q
 obtain ⟨G,g⟩:=o.2.opn
 obtain ⟨F0,w0⟩:=g.own (v,m) (yag _ yaa)
 have ev:v=v0:=zaY w0 hv
 refine ⟨by show 1<=1000; decide,λa0 n0=>⟨a0,v,rfl,T,hno,upd_same,λdx n1 ne=>⟨rfl,dx,[(f,v)],upd_same,?_,?_,?_⟩⟩⟩
 ·rw [upd_ne ne,upd_same]
 ·rwa [upd_ne ne] at n1
 ·have n2:H1 dx=none:=by rwa [upd_ne ne] at n1
  have eH:upd (del (upd (upd (upd H1 a0 (exo a0 (He.ga y.X.K x) none)) dx (exd dx [(f,v)])) a0 (exo a0 (He.ga y.X.K x) (some dx))) a0) dx (.xd [(f,v)])=upd H1 dx (.xd [(f,v)]):=by
   funext b
   by_cases z:b=dx
   ·rw [z,upd_same,upd_same]
   ·rw [upd_ne z,upd_ne z]
    by_cases z2:b=a0
    ·rw [z2,del_same,n0]
    ·rw [del_ne z2,upd_ne z2,upd_ne z,upd_ne z2]
  rw [eH]
  refine q σ _ (some dx) _ hk ?_ ?_
  ·rw [xs.rel]
   exact ⟨hn,rfl,dx,v,rfl,upd_same,by rw [ev]; exact hv⟩
  ·exact ⟨o.1,(o.pop).2.freshX n2⟩
theorem zfA {x f:Str} (h:zcA w):zfn (zcz x f w):=λE E' e l q=>h _ _ _ _ _ (λm e1 q=>⟨q.1,l.ex _ _ q.2⟩) l.ex q
theorem zsZ {x f:Str} {k:Nat} (xs:Xs y.X.K y.X.mg y.xr NS NP) (hn:NS.contains x=true) (F:XFd y.X.prog y.X.w y.X.K y.X.mg y.X.base k x f) (hr:Room (k+1) y.X.A) (ha:SE y a w) (hc:y.X.calm=true:=by rfl)
 (tk:L2N.Takes y.X y.W:=by exact zue rfl rfl rfl rfl) (hg:Gl y.X x:=by rfl) (hdb:(x==("__debug__" : Str))=false:=by decide)
 (he:starEach [a] y.X.env=(false,eval a y.X.env)::starEach [] y.X.env:=by rfl) (hpl:(backTo p3 (starEach [] y.X.env)).any (·.1)=false:=by rfl) :
 SS y κ (.Raise (some (.Call (.Name x p) [a] [] p3)) none pos) (zcz x f w) where
 run:=by
  obtain ⟨T,hno,fI,fd,ps,iC,tI,F1,hb⟩:=F
  refine zdW (L2N.ps_raise hc tk (zvF (CX:=L2.CX y.X.prog y.X.w) T iC tI F1 hr hb (λ_ _ _ _ _ _ _ z => ?_) hg (xs.at_ x hn) (pa_cons ha.run pa_nil he) hdb he hpl)) λD σ H q=>zjc xs hn T hno ha q
  obtain ⟨_,_,_,_,_,_,_,_,_,_,_,_,z⟩:=z
  exact z.elim
 mono:=zfA ha.mono
end
def XFdH (P:Program) (w:World) (K:PySem.W.Frag) (mg:Str->Option Value) (base:Heap) (k:Nat) (x f:Str):Prop :=
 OexC K (He.ga K x)/\PySem.W.findIn K (.ref (He.ga K x)) f=some none/\∃ fI fd ps,PySem.W.findIn K (.ref (He.ga K x)) "__init__" = some (some (.ref fI))/\PySem.W.typeIn K (.ref fI)=some (.type "function") /\
  L2H.FnH P w K mg base (L2.CX P w) k fI fd ps (spXI K (He.ga K x) f)/\Binds K fd ps []
section
variable {P:Program} {w:World} {K:PySem.W.Frag} {mg:Str->Option Value} {base:Heap}
theorem zuf {x qual f nm:Str} {st:Stmt} {fI C:Addr} {fd:FuncData} {k:Nat} (F:Fun K x qual st fI fd) (S:FnScope ["self",nm] ["self",nm] (defScope st))
 (hb:∀ cdv A outer s H E p,∃ m:Str,PSs (L2H.cxH (L2.CX P w) P w K mg base ["self",nm] qual (defScope st) fI cdv A outer s H E p) (defBody st) (tSeq (tDrop (tVeI K (tCons (tVar 0) (tCons (tC (.str m)) tNil)))) (tOst K f (tVar 0) (tVar 1)))) :
 L2H.FnH P w K mg base (L2.CX P w) (k+1) fI fd ["self",nm] (spXI K C f):=by
 obtain ⟨oc,od,kV,doc,pm,an,cdv,ct,osl,rfl,lk,hcd⟩:=F.ex
 have key:∀ (m:Str) (H:Hp) (vs:List V) (Q:VK) (E:XK),spXI K C f vs H Q E->(tSeq (tDrop (tVeI K (tCons (tVar 0) (tCons (tC (.str m)) tNil)))) (tOst K f (tVar 0) (tVar 1))) { nx:=λ_ H'=>Q .non H',rt:=Q } (start ["self",nm] vs) H:=by
  rintro m H vs Q E ⟨a,v,rfl,T,hno,ea,q⟩
  refine ⟨.ref a,rfl,a,C,[.str m],rfl,(by show 1<=1000; decide),T,ea,?_⟩
  refine ⟨v,rfl,.ref a,rfl,a,C,rfl,T,hno,.inl ⟨ea,λdx n ne=>q dx n ne⟩⟩
 refine L2H.fn_ofH lk hcd S (λvs H Q E h=>by
  obtain ⟨a,v,rfl,_⟩:=h
  rfl) (λA outer s H vs Q E p hot hr h => ?_)
 obtain ⟨m,hb⟩:=hb cdv A outer s H E p
 exact ⟨_,hb,key _ H vs Q E h⟩
theorem zqQ {k:Nat} {x f nm:Str} {fd:FuncData} (q:xdB x f K=true)
 (F:L2H.FnH P w K mg base (L2.CX P w) k (He.ma K (He.ga K x) "__init__") fd ["self",nm] (spXI K (He.ga K x) f)) (hb:Binds K fd ["self",nm] []):XFdH P w K mg base k x f:=by
 obtain ⟨q1,q2,q3⟩:=xd_of q
 refine ⟨q1,q2,_,_,_,q3.at_,?_,F,hb⟩
 have z:=q3.fn
 unfold PySem.W.isFn at z
 exact yct.mp z
end
abbrev suY (y:Y) (a:Addr) (pn:List (Addr×Obj)):Y:=⟨L2H.suiteX y.X a pn,y.xr,y.W⟩
def WEnds.tX (E:WEnds) (n:Str) (su:WS):WEnds:={ E with ex:=λx e'=>if subX x.cls n=true then su E e' else E.ex x e' }
def zvG (n:Str) (b su:WS):WS:=λE e=>b (E.tX n su) e
theorem WEnds.Le.tX {E E':WEnds} {n:Str} {su:WS} (l:E.Le E') (ms:zfn su):(E.tX n su).Le (E'.tX n su):=⟨l.nx,l.rt,l.bk,l.ct,λx e' q=>by
 unfold WEnds.tX at q ⊢
 dsimp only at q ⊢
 split at q
 ·next z=>rw [yaM z]; exact ms _ _ _ l q
 ·next z=>rw [yaH z]; exact l.ex _ _ q⟩
section
variable {y:Y} {κ:List (Nat×V)} {pos np pos' pos2 p p3:Pos} {NS NP:List Str} {body:List Stmt} {n x f:Str} {k:Nat} {b:WS} {a:Expr} {w:WE}
theorem zvH {p1:Addr} {pn:List (Addr×Obj)} (xs:Xs y.X.K y.X.mg y.xr NS NP) (hn:NS.contains x=true) (F:XFdH y.X.prog y.X.w y.X.K y.X.mg y.X.base k x f) (hr:Room (k+1) y.X.A) (ha:SE (suY y p1 pn) a w)
 (tk:L2.Takes (L2H.suiteX y.X p1 pn) y.W) (hot:L2H.HotC (L2H.suiteX y.X p1 pn)) (hg:Gl (L2H.suiteX y.X p1 pn) x) (hdb:(x==("__debug__" : Str))=false)
 (he:starEach [a] y.X.env=(false,eval a y.X.env)::starEach [] y.X.env) (hpl:(backTo p3 (starEach [] y.X.env)).any (·.1)=false) :
 SS (suY y p1 pn) κ (.Raise (some (.Call (.Name x p) [a] [] p3)) none pos) (zcz x f w) where
 run:=by
  obtain ⟨T,hno,fI,fd,ps,iC,tI,F1,hb⟩:=F
  refine zdW (L2H.ps_raiseH hot tk (L2H.pmk5_oexH (X:=L2H.suiteX y.X p1 pn) (CX:=L2.CX y.X.prog y.X.w) T iC tI F1 (L2H.roomH_mark hr _) hot hb (λ_ _ _ _ _ _ _ z => ?_) hg (xs.at_ x hn) (pa_cons ha.run pa_nil he) hdb he hpl).pmk) λD σ H q=>zjc (y:=suY y p1 pn) xs hn T hno ha q
  obtain ⟨_,_,_,_,_,_,_,_,_,_,_,_,z⟩:=z
  exact z.elim
 mono:=zfA ha.mono
theorem ytryX (xs:Xs y.X.K y.X.mg y.xr NS NP) (hn:NS.contains n=true)
 (hb:∀ (W:WX) (pn:List (Addr×Obj)) (xe:Value->Shared->Prop),L2N.Takes (y.X.tr pn xe) W->PassesOwn (model y.X.prog y.X.w) y.X.A y.X.env xe->SSs (y.tr pn xe W) κ body b)
 (hx:NS.contains x=true) (F:XFdH y.X.prog y.X.w y.X.K y.X.mg y.X.base k x f) (hr:Room (k+1) y.X.A) (ha:∀ (p1:Addr) (pn:List (Addr×Obj)),SE (suY y p1 pn) a w)
 (tk:L2.Takes y.X y.W:=by exact L2.takes_of rfl rfl rfl rfl) (hp:∀ hd:Option Value,PassesOwnAt (model y.X.prog y.X.w) (y.X.A.mark hd) y.X.A y.X.env y.X.xe:=by exact L2H.passesAt_of rfl) (hp0:PassesOwn (model y.X.prog y.X.w) y.X.A y.X.env y.X.xe:=by exact passes_of rfl)
 (hst:y.X.stack=y.X.env::y.X.outer:=by rfl) (hf:y.X.env.frame=some y.X.env.locals:=by rfl)
 (hg:Gl y.X n:=by rfl) (hdb:(n==("__debug__" : Str))=false:=by decide) (hgx:∀ p1 pn,Gl (L2H.suiteX y.X p1 pn) x:=by exact λ_ _=>rfl) (hdx:(x==("__debug__" : Str))=false:=by decide)
 (he:starEach [a] y.X.env=(false,eval a y.X.env)::starEach [] y.X.env:=by rfl) (hpl:(backTo p3 (starEach [] y.X.env)).any (·.1)=false:=by rfl) :
 SS y κ (.Try body [.ExceptHandler (some (.Name n np)) none [.Raise (some (.Call (.Name x p) [a] [] p3)) none pos2] pos'] [] [] pos) (zvG n b (zcz x f w)):=by
 have mb:zfn b:=(hb (λ_ _ _ _=>False) y.X.pn y.X.xe (λu s' ⟨_,_,_,_,_,_,_,_,_,_,_,_,_,_,_,_,z⟩=>z.elim) hp0).mono
 have ms:zfn (zcz x f w):=zfA (ha 0 []).mono
 refine ⟨zdW (L2H.ps_try_onlyX (tb:=λW=>zlI ⟨y.X,y.xr,W⟩ κ b) (ts:=λa cls d D σ H=>zlI y κ (zcz x f w) D σ H)
  hst hf ⟨hg,hdb,.inl (xs.at_ n hn)⟩ hp tk (λW pn xe t _ p=>(hb W pn xe t p).run) λp1 oe cls d pn hz hf2 tkS hot=>pss_one (zvH xs hx F hr (ha p1 _) tkS hot (hgx _ _) hdx he hpl).run) λD σ H ⟨e,P,hk,h0,q⟩ => ?_,λE E' e l q=>mb _ _ e (l.tX ms) q⟩
 refine ⟨e,P,hk,h0,mb ((lend y κ P D).tX n (zcz x f w)) _ e ⟨λ_ q=>q,λ_ _ q=>q,λ_ q=>q,λ_ q=>q,λx1 e' q => ?_⟩ q⟩
 unfold WEnds.tX at q
 dsimp only at q
 intro σ' c d H' k' r o
 have r':xrT y.X.K NS x1 c d H':=by
  rw [← xs.rel]
  exact r
 obtain ⟨r1,r2,r3⟩:=r'
 refine ⟨subX x1.cls n,by rw [r2]; exact xs.exm _ _ r1 hn,λhx a ha => ?_,λhx => ?_⟩
 ·rw [yaM hx] at q
  exact ⟨e',P,k',o,q⟩
 ·rw [yaH (by rw [hx]; exact yat)] at q
  exact q σ' c d H' k' r o
end
section
variable {α β:Type} {P:β->Prop} {XP:Xn->Prop} {e:En}
theorem k_tryX {n:Str} {b su:WS} {E:WEnds} (q:b (E.tX n su) e):zvG n b su E e:=q
theorem zvI {P':α->Prop} {rr:R α} {f:α->R β} (h:((R.calm rr).bind f).post P XP) (q:∀ v,(f v).post P XP->P' v):rr.post P' λ_=>False:=by
 cases rr with
 | ok a=>exact q a h
 | _=>exact h.elim
theorem takeC {X:Cx} {W:WX} (h:L2.Takes X W):∀ u s',XEZ Zc X W u s'->X.xe u s':=h
theorem takeN {X:Cx} {W:WX} (h:L2N.Takes X W):∀ u s',XEZ L2N.Zn X W u s'->X.xe u s':=h
theorem zqR {te:WE} {own:List Nat} {g:Tg} {Q:M->En->Prop} {XX:XQ} {ff:D->R D} {ds:List D} {S:List D->Prop} (h:(lcMX ff ds).post S XP)
 (hb:∀ d (S:D->Prop) (KK:M->En->Prop) (XK:XQ),(∀ m e3,zaO e3 own=zaO e own->S m.d->KK m e3)->(∀ x e3,zaO e3 own=zaO e own->XP x->XK x e3)->(ff d).post S XP->asgK g (.fz d) (zaO e own) λe1=>te e1 KK XK)
 (q:∀ xs,S xs->Q (.lst xs) (za1 e own (zaO e own))) (hx:∀ x,XP x->XX x (za1 e own (zaO e own))):lcKX g zdp te own Q XX ds e:=by
 refine j_lcMX (P:=S) (f:=λv=>.ok v) ?_ hx hb λxs h=>q xs h
 rw [zbe]
 exact zaG h (λ_ z=>z) λ_ z=>z
end
end VW
set_option maxHeartbeats 4000000
namespace VW
open PySem PySem.Spec PyProof.Rows L2 R
def zjd:WS:=sIf (tOrW (zel (tTru (oVal (wN ziY (zag (oPk 0) (zag (oVal (wC (.ty "str"))) (aNil))))))) (zel (tVal (zeN (zen .le) (zen .le) (oVal (wC (.int 1))) (oVal (wN zdr (zag (oPk 0) (aNil)))) (oVal (wC (.int (8))))))))
 (sRet (oVal (wC (.bl false))))
 (sNx)
def zhY:WS:=sIf (tVal (w2 (opIn true) (oPk 1) (oVal (wC (.str "abcdefghijklmnopqrstuvwxyz")))))
 (sRet (oVal (wC (.bl false))))
 (sNx)
def zgr:WS:=sFor (iSeq (wVar 0)) (.nm 1)
 (zhY)
def ze5:WS:=sRet (oVal (wC (.bl true)))
def zl4:WS:=sSeq (zjd) (sSeq (zgr) (ze5))
abbrev zhv:Type:=Bool
def zhZ (d_1:D) (s_1:Unit) (K:(Unit)->R (zhv)):R (zhv) :=
 R.bind (nIn true d_1 (.str "abcdefghijklmnopqrstuvwxyz")) λt_5 =>
 if t_5=true then
 .ok false
 else
 K ()
def zeO (thing_1:D):R (zhv) :=
 R.bind (nIsi "str" thing_1) λt_1 =>
 R.bind (orB (!t_1) (R.bind (nLen thing_1) λt_2=>R.bind (nOrd .le (.int 1) t_2) λt_3=>R.bind (andB t_3 (nOrd .le t_2 (.int (8)))) λc_1=>.ok ((!c_1)))) λc_2 =>
 if c_2=true then
 .ok false
 else
 R.bind (zbf thing_1) λds_1 =>
 R.forN (zhZ) (λ(s_2:Unit) =>
 .ok true) ds_1 ()
abbrev zhw (ms:List M) (Q:M->En->Prop) (X:Xn->Prop):Prop:=∃ (thing_1:D),ms=[(.fz thing_1)]/\(zeO thing_1).post (λr=>Q (M.fz (.bl r)) [none]) X
abbrev zdK:Fn:=⟨1,[],zhw⟩
theorem zl5:zcS zhw:=λms Q Q' X X' hq hx ⟨thing_1,e,h⟩=>⟨thing_1,e,zaG h (λ_ h=>hq _ _ h) hx⟩
theorem zqS (ms:List M) (Q:M->En->Prop) (X:Xn->Prop) (h:zhw ms Q X):wFn 2 1 [] zl4 ms Q X:=by
 obtain ⟨thing_1,rfl,h⟩:=h
 refine zcF (e0:=[some (.fz thing_1),none]) rfl λE hrt hnx hx => ?_
 show (sSeq zjd (sSeq zgr (ze5))) _ _
 refine zaz (zdQ (zfv (zc1 (zea (zad (k_wN (k_ac (k_pk rfl (k_ac (zad (k_c (k_an (zcD rfl (zap (zat (zlX h λt_1 h=>k_wv (zec (zfw (λv=>v) (λv=>[some (.fz thing_1),none]) h (λJ0 h=>J0 true h) (λJ0 h=>zc1 (zbg (zhs (zad (k_c (zad (k_wN (k_ac (k_pk rfl (k_an (zcD rfl (zat (zdY (asc h) λt_2 h=>k_wv (k_wv (zfu (asc h) λt_3 h=>zht (λv=>M.fz (.bl v)) (λv=>[some (.fz thing_1),none]) (asc h) (λJ1 h=>zad (k_c (k_wv (k_wv (zfu h λt_4 h=>J1 t_4 h))))) (λJ1 h=>J1 false h) (λc_1 h=>j_tv (J0 (!c_1) h))))))))))))))))) (λc_2 h=>zeb h (λh => ?_) (λh => ?_))))))))))))))))))))
 ·refine za2 (k_c (hrt _ _ h))
 ·refine k_nx ?_
  show (sSeq zgr (ze5)) _ [some (.fz thing_1),none]
  refine zaz (zk2 (zdJ (zaC rfl (zda h λds_1 h=>zi6 (λ(s_1:Unit) (j_1:Option M)=>[some (.fz thing_1),j_1]) ?_ ?_ _ () none h))))
  ·intro d_1 s_1 j_1 N K hn h
   refine g_nm (?_)
   show zhY _ [some (.fz thing_1),some (.fz d_1)]
   refine zdQ (zbg (k_w2 (k_pk rfl (zad (k_c (k_wp rfl (k_wv (k_in h λt_5 h=>j_tv (zeb h (λh => ?_) (λh => ?_))))))))))
   ·refine za2 (k_c (hrt _ _ h))
   ·refine k_nx ?_
    exact hn () (some (.fz d_1)) h
  ·intro s_2 j_2 h
   show ze5 _ [some (.fz thing_1),j_2]
   refine za2 (k_c (hrt _ _ h))
def zje:WS:=sIf (tOrW (zel (tTru (oVal (wN ziY (zag (oPk 0) (zag (oVal (wC (.ty "tuple"))) (aNil))))))) (tOrW (tVal (w2 (opEq true) (oVal (wN zdr (zag (oPk 0) (aNil)))) (oVal (wC (.int 2))))) (zel (tTru (oVal (za0 zdK (zag (oFz (w2 opIx (oPk 0) (oVal (wC (.int 0))))) (aNil))))))))
 (sRet (oVal (wC (.bl false))))
 (sNx)
def zgs:WS:=sRet (oVal (wAnd (wN ziY (zag (oVal (w2 opIx (oPk 0) (oVal (wC (.int 1))))) (zag (oVal (wC (.ty "str"))) (aNil)))) (w2 (opIn false) (oVal (w2 opIx (oPk 0) (oVal (wC (.int 1))))) (oVal (wC (.tup [.str "+",.str "-"]))))))
def zl6:WS:=sSeq (zje) (zgs)
abbrev zo1:Type:=Bool
def zfB (thing_1:D):R (zo1) :=
 R.bind (nIsi "tuple" thing_1) λt_1 =>
 R.bind (orB (!t_1) (R.bind (nLen thing_1) λt_2=>R.bind (nEq true t_2 (.int 2)) λt_3=>orB t_3 (R.bind (nIx thing_1 (.int 0)) λt_4=>R.bind (zeO t_4) λt_5=>.ok ((!t_5))))) λc_2 =>
 if c_2=true then
 .ok false
 else
 R.bind (nIx thing_1 (.int 1)) λt_6 =>
 R.bind (nIsi "str" t_6) λt_7 =>
 R.bind (andB t_7 (R.bind (nIx thing_1 (.int 1)) λt_8=>nIn false t_8 (.tup [.str "+",.str "-"]))) λc_3 =>
 .ok c_3
abbrev zhx (ms:List M) (Q:M->En->Prop) (X:Xn->Prop):Prop:=∃ (thing_1:D),ms=[(.fz thing_1)]/\(zfB thing_1).post (λr=>Q (M.fz (.bl r)) [none]) X
abbrev zjf:Fn:=⟨1,[],zhx⟩
theorem zl7:zcS zhx:=λms Q Q' X X' hq hx ⟨thing_1,e,h⟩=>⟨thing_1,e,zaG h (λ_ h=>hq _ _ h) hx⟩
theorem zqT (ms:List M) (Q:M->En->Prop) (X:Xn->Prop) (h:zhx ms Q X):wFn 1 1 [] zl6 ms Q X:=by
 obtain ⟨thing_1,rfl,h⟩:=h
 refine zcF (e0:=[some (.fz thing_1)]) rfl λE hrt hnx hx => ?_
 show (sSeq zje (zgs)) _ _
 refine zaz (zdQ (zfv (zc1 (zea (zad (k_wN (k_ac (k_pk rfl (k_ac (zad (k_c (k_an (zcD rfl (zap (zat (zlX h λt_1 h=>k_wv (zec (zfw (λv=>v) (λv=>[some (.fz thing_1)]) h (λJ1 h=>J1 true h) (λJ1 h=>zfv (zbg (k_w2 (zad (k_wN (k_ac (k_pk rfl (k_an (zcD rfl (zat (zdY (asc h) λt_2 h=>zad (k_c (k_wv (k_wv (k_eq (asc h) λt_3 h=>j_tv (zfw (λv=>v) (λv=>[some (.fz thing_1)]) h (λJ2 h=>J2 true h) (λJ2 h=>zc1 (zea (zad (zaI (k_ac (k_fz (k_w2 (k_pk rfl (zad (k_c (k_wp rfl (k_wv (k_ix (asc h) λt_4 h=>k_an (za7 (zbh ⟨rfl,_,rfl,zaL (asc h) (λt_5 h=>k_wv (zec (J2 (!t_5) h))) (λx z=>hx x _ z)⟩))))))))))))))) (λc_1 h=>J1 c_1 h))))))))))))))))) (λc_2 h=>zeb h (λh => ?_) (λh => ?_))))))))))))))))))))
 ·refine za2 (k_c (hrt _ _ h))
 ·refine k_nx ?_
  show zgs _ [some (.fz thing_1)]
  refine za2 (ztW (k_wN (k_ac (zad (k_w2 (k_pk rfl (zad (k_c (k_wp rfl (k_wv (k_ix h λt_6 h=>k_ac (zad (k_c (k_an (zap (zap (zat (zlX h λt_7 h=>ztX (λv=>M.fz (.bl v)) (λv=>[some (.fz thing_1)]) h (λJ0 h=>k_w2 (zad (k_w2 (k_pk rfl (zad (k_c (k_wp rfl (k_wv (k_ix (asc h) λt_8 h=>zad (k_c (k_wv (k_wv (k_in h λt_9 h=>J0 t_9 h))))))))))))) (λJ0 h=>J0 false h) (λc_3 h=>hrt _ _ h)))))))))))))))))))
def zfC:WS:=sIf (tOrW (zel (tTru (oVal (wN ziY (zag (oPk 0) (zag (oVal (wC (.ty "tuple"))) (aNil))))))) (tOrW (tVal (w2 (opEq true) (oVal (wN zdr (zag (oPk 0) (aNil)))) (oVal (wC (.int 2))))) (zel (tTru (oVal (za0 zdK (zag (oFz (w2 opIx (oPk 0) (oVal (wC (.int 0))))) (aNil))))))))
 (sRet (oVal (wC (.bl false))))
 (sNx)
def zed:WS:=sIf (tOrW (zel (tTru (oVal (wN ziY (zag (oVal (w2 opIx (oPk 0) (oVal (wC (.int 1))))) (zag (oVal (wC (.ty "tuple"))) (aNil))))))) (zel (tVal (zeN (zen .le) (zen .le) (oVal (wC (.int 1))) (oVal (wN zdr (zag (oVal (w2 opIx (oPk 0) (oVal (wC (.int 1))))) (aNil)))) (oVal (wC (.int (4))))))))
 (sRet (oVal (wC (.bl false))))
 (sNx)
def zdc:WS:=sRet (oVal (wN zst (zag (oVal (wLc (iSeq (w2 opIx (oPk 0) (oVal (wC (.int 1))))) (.nm 1) (zdp) (za0 zjf (zag (oFz (wVar 1)) (aNil))) [1])) (aNil))))
def zgV:WS:=sSeq (zfC) (sSeq (zed) (zdc))
abbrev zjV:Type:=Bool
def zdd (thing_1:D):R (zjV) :=
 R.bind (nIsi "tuple" thing_1) λt_1 =>
 R.bind (orB (!t_1) (R.bind (nLen thing_1) λt_2=>R.bind (nEq true t_2 (.int 2)) λt_3=>orB t_3 (R.bind (nIx thing_1 (.int 0)) λt_4=>R.bind (zeO t_4) λt_5=>.ok ((!t_5))))) λc_2 =>
 if c_2=true then
 .ok false
 else
 R.bind (nIx thing_1 (.int 1)) λt_6 =>
 R.bind (nIsi "tuple" t_6) λt_7 =>
 R.bind (orB (!t_7) (R.bind (nIx thing_1 (.int 1)) λt_8=>R.bind (nLen t_8) λt_9=>R.bind (nOrd .le (.int 1) t_9) λt_10=>R.bind (andB t_10 (nOrd .le t_9 (.int (4)))) λc_3=>.ok ((!c_3)))) λc_4 =>
 if c_4=true then
 .ok false
 else
 R.bind (nIx thing_1 (.int 1)) λt_12 =>
 R.bind (zbf t_12) λds_1 =>
 R.bind (lcM (λd_1:D=>R.bind (zfB d_1) λt_13=>.ok ((.bl t_13))) ds_1) λxs_1 =>
 R.bind (nAll (.lst xs_1)) λt_14 =>
 .ok t_14
abbrev zeE (ms:List M) (Q:M->En->Prop) (X:Xn->Prop):Prop:=∃ (thing_1:D),ms=[(.fz thing_1)]/\(zdd thing_1).post (λr=>Q (M.fz (.bl r)) [none]) X
abbrev zct:Fn:=⟨1,[],zeE⟩
theorem ziq:zcS zeE:=λms Q Q' X X' hq hx ⟨thing_1,e,h⟩=>⟨thing_1,e,zaG h (λ_ h=>hq _ _ h) hx⟩
theorem zk7 (ms:List M) (Q:M->En->Prop) (X:Xn->Prop) (h:zeE ms Q X):wFn 2 1 [] zgV ms Q X:=by
 obtain ⟨thing_1,rfl,h⟩:=h
 refine zcF (e0:=[some (.fz thing_1),none]) rfl λE hrt hnx hx => ?_
 show (sSeq zfC (sSeq zed (zdc))) _ _
 refine zaz (zdQ (zfv (zc1 (zea (zad (k_wN (k_ac (k_pk rfl (k_ac (zad (k_c (k_an (zcD rfl (zap (zat (zlX h λt_1 h=>k_wv (zec (zfw (λv=>v) (λv=>[some (.fz thing_1),none]) h (λJ2 h=>J2 true h) (λJ2 h=>zfv (zbg (k_w2 (zad (k_wN (k_ac (k_pk rfl (k_an (zcD rfl (zat (zdY (asc h) λt_2 h=>zad (k_c (k_wv (k_wv (k_eq (asc h) λt_3 h=>j_tv (zfw (λv=>v) (λv=>[some (.fz thing_1),none]) h (λJ3 h=>J3 true h) (λJ3 h=>zc1 (zea (zad (zaI (k_ac (k_fz (k_w2 (k_pk rfl (zad (k_c (k_wp rfl (k_wv (k_ix (asc h) λt_4 h=>k_an (za7 (zbh ⟨rfl,_,rfl,zaL (asc h) (λt_5 h=>k_wv (zec (J3 (!t_5) h))) (λx z=>hx x _ z)⟩))))))))))))))) (λc_1 h=>J2 c_1 h))))))))))))))))) (λc_2 h=>zeb h (λh => ?_) (λh => ?_))))))))))))))))))))
 ·refine za2 (k_c (hrt _ _ h))
 ·refine k_nx ?_
  show (sSeq zed (zdc)) _ [some (.fz thing_1),none]
  refine zaz (zdQ (zfv (zc1 (zea (zad (k_wN (k_ac (zad (k_w2 (k_pk rfl (zad (k_c (k_wp rfl (k_wv (k_ix h λt_6 h=>k_ac (zad (k_c (k_an (zap (zap (zat (zlX h λt_7 h=>k_wv (zec (zfw (λv=>v) (λv=>[some (.fz thing_1),none]) h (λJ0 h=>J0 true h) (λJ0 h=>zc1 (zbg (zhs (zad (k_c (zad (k_wN (k_ac (zad (k_w2 (k_pk rfl (zad (k_c (k_wp rfl (k_wv (k_ix (asc h) λt_8 h=>k_an (zap (zat (zdY (asc h) λt_9 h=>k_wv (k_wv (zfu (asc h) λt_10 h=>zht (λv=>M.fz (.bl v)) (λv=>[some (.fz thing_1),none]) (asc h) (λJ1 h=>zad (k_c (k_wv (k_wv (zfu h λt_11 h=>J1 t_11 h))))) (λJ1 h=>J1 false h) (λc_3 h=>j_tv (J0 (!c_3) h))))))))))))))))))))))) (λc_4 h=>zeb h (λh => ?_) (λh => ?_))))))))))))))))))))))))))
  ·refine za2 (k_c (hrt _ _ h))
  ·refine k_nx ?_
   show zdc _ [some (.fz thing_1),none]
   refine za2 (k_wN (k_ac (zad (k_lc (zdJ (k_w2 (k_pk rfl (zad (k_c (k_wp rfl (k_wv (k_ix h λt_12 h=>zda h λds_1 h=>zi8 h (λd_1 S KK hk h=>g_nm (zaI (k_ac (k_fz (zaC rfl (k_an (za7 (zbh ⟨rfl,_,rfl,zaL h (λt_13 h=>hk _ _ rfl h) (λ_ z=>z.elim)⟩)))))))) λxs_1 h=>k_an (zap (zat (k_all h λt_14 h=>hrt _ _ h)))))))))))))))
def zh0:WS:=sIf (tOrW (zel (tTru (oVal (wN ziY (zag (oPk 0) (zag (oVal (wC (.ty "tuple"))) (aNil))))))) (zel (tVal (zeN (zen .le) (zen .le) (oVal (wC (.int 1))) (oVal (wN zdr (zag (oPk 0) (aNil)))) (oVal (wC (.int (8))))))))
 (sRet (oVal (wC (.bl false))))
 (sNx)
def zfD:WS:=sSet 1 (wC (.str ""))
def zjg:WS:=sIf (tOrW (zel (tTru (oVal (za0 zct (zag (oFz (wVar 2)) (aNil)))))) (zel (tVal (w2 (zen .lt) (oPk 1) (oVal (w2 opIx (oPk 2) (oVal (wC (.int 0)))))))))
 (sRet (oVal (wC (.bl false))))
 (sNx)
def zfE:WS:=sSet 1 (w2 opIx (oPk 2) (oVal (wC (.int 0))))
def zgW:WS:=sSeq (zjg) (zfE)
def zeu:WS:=sFor (iSeq (wVar 0)) (.nm 2)
 (zgW)
def zdL:WS:=sRet (oVal (wC (.bl true)))
def zko:WS:=sSeq (zh0) (sSeq (zfD) (sSeq (zeu) (zdL)))
abbrev zgt:Type:=Bool
def zdZ (d_1:D) (s_1:D) (K:(D)->R (zgt)):R (zgt) :=
 R.bind (zdd d_1) λt_5 =>
 R.bind (orB (!t_5) (R.bind (nIx d_1 (.int 0)) λt_6=>R.bind (nOrd .lt s_1 t_6) λt_7=>.ok ((!t_7)))) λc_3 =>
 if c_3=true then
 .ok false
 else
 R.bind (nIx d_1 (.int 0)) λt_8 =>
 K t_8
def zfZ (thing_1:D):R (zgt) :=
 R.bind (nIsi "tuple" thing_1) λt_1 =>
 R.bind (orB (!t_1) (R.bind (nLen thing_1) λt_2=>R.bind (nOrd .le (.int 1) t_2) λt_3=>R.bind (andB t_3 (nOrd .le t_2 (.int (8)))) λc_1=>.ok ((!c_1)))) λc_2 =>
 if c_2=true then
 .ok false
 else
 R.bind (zbf thing_1) λds_1 =>
 R.forN (zdZ) (λ(s_2:D) =>
 .ok true) ds_1 (.str "")
abbrev zgu (ms:List M) (Q:M->En->Prop) (X:Xn->Prop):Prop:=∃ (thing_1:D),ms=[(.fz thing_1)]/\(zfZ thing_1).post (λr=>Q (M.fz (.bl r)) [none]) X
abbrev zf0:Fn:=⟨1,[],zgu⟩
theorem zk8:zcS zgu:=λms Q Q' X X' hq hx ⟨thing_1,e,h⟩=>⟨thing_1,e,zaG h (λ_ h=>hq _ _ h) hx⟩
theorem zo2 (ms:List M) (Q:M->En->Prop) (X:Xn->Prop) (h:zgu ms Q X):wFn 3 1 [] zko ms Q X:=by
 obtain ⟨thing_1,rfl,h⟩:=h
 refine zcF (e0:=[some (.fz thing_1),none,none]) rfl λE hrt hnx hx => ?_
 show (sSeq zh0 (sSeq zfD (sSeq zeu (zdL)))) _ _
 refine zaz (zdQ (zfv (zc1 (zea (zad (k_wN (k_ac (k_pk rfl (k_ac (zad (k_c (k_an (zcD rfl (zap (zat (zlX h λt_1 h=>k_wv (zec (zfw (λv=>v) (λv=>[some (.fz thing_1),none,none]) h (λJ3 h=>J3 true h) (λJ3 h=>zc1 (zbg (zhs (zad (k_c (zad (k_wN (k_ac (k_pk rfl (k_an (zcD rfl (zat (zdY (asc h) λt_2 h=>k_wv (k_wv (zfu (asc h) λt_3 h=>zht (λv=>M.fz (.bl v)) (λv=>[some (.fz thing_1),none,none]) (asc h) (λJ4 h=>zad (k_c (k_wv (k_wv (zfu h λt_4 h=>J4 t_4 h))))) (λJ4 h=>J4 false h) (λc_1 h=>j_tv (J3 (!c_1) h))))))))))))))))) (λc_2 h=>zeb h (λh => ?_) (λh => ?_))))))))))))))))))))
 ·refine za2 (k_c (hrt _ _ h))
 ·refine k_nx ?_
  show (sSeq zfD (sSeq zeu (zdL))) _ [some (.fz thing_1),none,none]
  refine zaz (zaT (k_c (?_)))
  show (sSeq zeu (zdL)) _ [some (.fz thing_1),some (.fz (.str "")),none]
  refine zaz (zk2 (zdJ (zaC rfl (zda h λds_1 h=>zi6 (λ(s_1:D) (j_1:Option M)=>[some (.fz thing_1),some (.fz s_1),j_1]) ?_ ?_ _ (.str "") none h))))
  ·intro d_1 s_1 j_1 N K hn h
   refine g_nm (?_)
   show zgW _ [some (.fz thing_1),some (.fz s_1),some (.fz d_1)]
   refine zaz (zdQ (zfv (zc1 (zea (zad (zaI (k_ac (k_fz (zaC rfl (k_an (za7 (zbh ⟨rfl,_,rfl,zaL h (λt_5 h=>k_wv (zec (zfw (λv=>v) (λv=>[some (.fz thing_1),some (.fz s_1),some (.fz d_1)]) h (λJ2 h=>J2 true h) (λJ2 h=>zc1 (zbg (k_w2 (k_pk rfl (zad (k_w2 (k_pk rfl (zad (k_c (k_wp rfl (k_wv (k_ix (asc h) λt_6 h=>k_wp rfl (k_wv (zfu (asc h) λt_7 h=>j_tv (J2 (!t_7) h))))))))))))))) (λc_3 h=>zeb h (λh => ?_) (λh => ?_))))) (λx z=>hx x _ z)⟩))))))))))))
   ·refine za2 (k_c (hrt _ _ h))
   ·refine k_nx ?_
    show zfE _ [some (.fz thing_1),some (.fz s_1),some (.fz d_1)]
    refine zaT (k_w2 (k_pk rfl (zad (k_c (k_wp rfl (k_wv (k_ix h λt_8 h => ?_)))))))
    exact hn t_8 (some (.fz d_1)) h
  ·intro s_2 j_2 h
   show zdL _ [some (.fz thing_1),some (.fz s_2),j_2]
   refine za2 (k_c (hrt _ _ h))
def zh1:WS:=sSet 2 (wIf (tVal (w2 (zen .lt) (oPk 1) (oVal (wN zdr (zag (oPk 0) (aNil)))))) (w2 opIx (oPk 0) (oPk 1)) (wC (.int 0)))
def zfF:WS:=sIf (tVal (w2 (zen .ge) (oPk 2) (oVal (w2 zsj (oVal (wC (.int 10))) (oVal (wC (.int 18)))))))
 (sRet (oVal (wN zcd (zag (oFz (w2 zsi (oPk 2) (oVal (w2 zsj (oVal (wC (.int 10))) (oVal (wC (.int 18))))))) (aNil)))))
 (sNx)
def zev:WS:=sSet 3 (wC (.int 0))
def zdM:WS:=sSet 4 (w2 zkP (oVal (w2 zaS (oVal (w2 zaS (oVal (w2 zgn (oPk 2) (oVal (wC (.int 48271))))) (oVal (w2 zgn (oVal (wC (.int 7919))) (oPk 1))))) (oVal (wC (.int 11))))) (oVal (wC (.int 2147483647))))
def zjh:WS:=sSet 4 (w2 zkP (oVal (w2 zaS (oVal (w2 zaS (oVal (w2 zgn (oPk 4) (oPk 4))) (oVal (w2 zgn (oVal (wC (.int 48271))) (oPk 4))))) (oPk 5))) (oVal (wC (.int 2147483629))))
def zfG:WS:=sSet 3 (w2 zaS (oVal (w2 zgn (oPk 3) (oVal (wC (.int 2147483587))))) (oVal (w2 zkP (oVal (w2 zgn (oPk 4) (oVal (wC (.int 69621))))) (oVal (wC (.int 2147483587))))))
def zgX:WS:=sSeq (zjh) (zfG)
def zc2:WS:=sFor (iR1 (oVal (wC (.int 12)))) (.nm 5)
 (zgX)
def zcg:WS:=sRet (oVal (wN zcd (zag (oFz (wVar 3)) (aNil))))
def zkp:WS:=sSeq (zh1) (sSeq (zfF) (sSeq (zev) (sSeq (zdM) (sSeq (zc2) (zcg)))))
abbrev znc:Type:=List D
def zd0 (d_1:D) (s_1:M×D):R (M×D) :=
 R.bind (nMul s_1.2 s_1.2) λt_14 =>
 R.bind (nMul (.int 48271) s_1.2) λt_15 =>
 R.bind (nAdd t_14.d t_15.d) λt_16 =>
 R.bind (nAdd t_16.d d_1) λt_17 =>
 R.bind (nMod t_17.d (.int 2147483629)) λt_18 =>
 R.bind (nMul s_1.1.d (.int 2147483587)) λt_19 =>
 R.bind (nMul t_18 (.int 69621)) λt_20 =>
 R.bind (nMod t_20.d (.int 2147483587)) λt_21 =>
 R.bind (nAdd t_19.d t_21) λt_22 =>
 .ok (t_22,t_18)
def zd2 (script_1:D) (k_1:D):R (znc) :=
 R.bind (nLen script_1) λt_1 =>
 R.bind (nOrd .lt k_1 t_1) λt_2 =>
 R.bind (if t_2=true then (nIx script_1 k_1:R (D)) else .ok ((.int 0))) λt_4 =>
 R.bind (nPow (.int 10) (.int 18)) λt_5 =>
 R.bind (nOrd .ge t_4 t_5) λt_6 =>
 if t_6=true then
 R.bind (nPow (.int 10) (.int 18)) λt_7 =>
 R.bind (nSub t_4 t_7) λt_8 =>
 .ok ([t_8])
 else
 R.bind (nMul t_4 (.int 48271)) λt_9 =>
 R.bind (nMul (.int 7919) k_1) λt_10 =>
 R.bind (nAdd t_9.d t_10.d) λt_11 =>
 R.bind (nAdd t_11.d (.int 11)) λt_12 =>
 R.bind (nMod t_12.d (.int 2147483647)) λt_13 =>
 R.bind (nR1 (.int 12)) λds_1 =>
 R.bind (R.forS (zd0) ds_1 ((.fz (.int 0)),t_13)) λs_2 =>
 .ok ([s_2.1.d])
abbrev zgv (ms:List M) (Q:M->En->Prop) (X:Xn->Prop):Prop:=∃ (script_1:D) (k_1:D),ms=[(.fz script_1),(.fz k_1)]/\(zd2 script_1 k_1).post (λr=>Q (M.lst r) [none,none]) X
abbrev zd3:Fn:=⟨2,[],zgv⟩
theorem zk9:zcS zgv:=λms Q Q' X X' hq hx ⟨script_1,k_1,e,h⟩=>⟨script_1,k_1,e,zaG h (λ_ h=>hq _ _ h) hx⟩
theorem zo3 (ms:List M) (Q:M->En->Prop) (X:Xn->Prop) (h:zgv ms Q X):wFn 6 2 [] zkp ms Q X:=by
 obtain ⟨script_1,k_1,rfl,h⟩:=h
 refine zcF (e0:=[some (.fz script_1),some (.fz k_1),none,none,none,none]) rfl λE hrt hnx hx => ?_
 show (sSeq zh1 (sSeq zfF (sSeq zev (sSeq zdM (sSeq zc2 (zcg)))))) _ _
 refine zaz (zaT (zvd (zbg (k_w2 (k_pk rfl (zad (k_wN (k_ac (k_pk rfl (k_an (zcD rfl (zat (zdY h λt_1 h=>k_wp rfl (k_wv (zfu h λt_2 h=>j_tv (zve (λv=>M.fz v) (λv=>[some (.fz script_1),some (.fz k_1),none,none,none,none]) h (λJ0 h=>k_w2 (k_pk rfl (k_pk rfl (k_wp rfl (k_wp rfl (k_ix h λt_3 h=>J0 t_3 h)))))) (λJ0 h=>k_c (J0 (.int 0) h)) (λt_4 h => ?_)))))))))))))))))
 show (sSeq zfF (sSeq zev (sSeq zdM (sSeq zc2 (zcg))))) _ [some (.fz script_1),some (.fz k_1),some (.fz t_4),none,none,none]
 refine zaz (zdQ (zbg (k_w2 (k_pk rfl (zad (k_w2 (zad (k_c (zad (k_c (k_wv (k_wv (k_pow h λt_5 h=>k_wp rfl (k_wv (zfu h λt_6 h=>j_tv (zeb h (λh => ?_) (λh => ?_)))))))))))))))))
 ·refine za2 (k_wN (k_ac (k_fz (k_w2 (k_pk rfl (zad (k_w2 (zad (k_c (zad (k_c (k_wv (k_wv (k_pow h λt_7 h=>k_wp rfl (k_wv (k_sub h λt_8 h=>k_an (zap (zat (zdb rfl rfl (hrt _ _ h))))))))))))))))))))
 ·refine k_nx ?_
  show (sSeq zev (sSeq zdM (sSeq zc2 (zcg)))) _ [some (.fz script_1),some (.fz k_1),some (.fz t_4),none,none,none]
  refine zaz (zaT (k_c (?_)))
  show (sSeq zdM (sSeq zc2 (zcg))) _ [some (.fz script_1),some (.fz k_1),some (.fz t_4),some (.fz (.int 0)),none,none]
  refine zaz (zaT (k_w2 (zad (k_w2 (zad (k_w2 (zad (k_w2 (k_pk rfl (zad (k_c (k_wp rfl (k_wv (zm8 h λt_9 h=>zad (k_w2 (zad (k_c (k_pk rfl (k_wv (k_wp rfl (zm8 h λt_10 h=>k_wv (k_wv (zbJ h λt_11 h=>zad (k_c (k_wv (k_wv (zbJ h λt_12 h=>zad (k_c (k_wv (k_wv (zm7 h λt_13 h => ?_)))))))))))))))))))))))))))))))
  show (sSeq zc2 (zcg)) _ [some (.fz script_1),some (.fz k_1),some (.fz t_4),some (.fz (.int 0)),some (.fz t_13),none]
  refine zaz (zk2 (zk1 (zad (k_c (k_wv (k_r1 h λds_1 h=>zk3 (λ(s_1:M×D) (j_1:Option M)=>[some (.fz script_1),some (.fz k_1),some (.fz t_4),some s_1.1,some (.fz s_1.2),j_1]) ?_ ?_ _ ((.fz (.int 0)),t_13) none h))))))
  ·intro d_1 s_1 j_1 N S hn h
   refine g_nm (?_)
   show zgX _ [some (.fz script_1),some (.fz k_1),some (.fz t_4),some s_1.1,some (.fz s_1.2),some (.fz d_1)]
   refine zaz (zaT (k_w2 (zad (k_w2 (zad (k_w2 (zad (k_w2 (k_pk rfl (k_pk rfl (k_wp rfl (k_wp rfl (zm8 h λt_14 h=>zad (k_w2 (zad (k_c (k_pk rfl (k_wv (k_wp rfl (zm8 h λt_15 h=>k_wv (k_wv (zbJ h λt_16 h=>k_pk rfl (k_wv (k_wp rfl (zbJ h λt_17 h=>zad (k_c (k_wv (k_wv (zm7 h λt_18 h => ?_)))))))))))))))))))))))))))))
   show zfG _ [some (.fz script_1),some (.fz k_1),some (.fz t_4),some s_1.1,some (.fz t_18),some (.fz d_1)]
   refine zaT (k_w2 (zad (k_w2 (k_pk rfl (zad (k_c (k_wp rfl (k_wv (zm8 h λt_19 h=>zad (k_w2 (zad (k_w2 (k_pk rfl (zad (k_c (k_wp rfl (k_wv (zm8 h λt_20 h=>zad (k_c (k_wv (k_wv (zm7 h λt_21 h=>k_wv (k_wv (zbJ h λt_22 h => ?_))))))))))))))))))))))))
   exact hn (t_22,t_18) (some (.fz d_1)) h
  ·intro s_2 j_2 h
   show zcg _ [some (.fz script_1),some (.fz k_1),some (.fz t_4),some s_2.1,some (.fz s_2.2),j_2]
   refine za2 (k_wN (k_ac (k_fz (zi4 rfl (k_an (zap (zat (zdb rfl rfl (hrt _ _ h)))))))))
def zkq:WS:=sSet 2 (w2 zkP (oVal (w2 opIx (oPk 0) (oVal (wC (.int 0))))) (oPk 1))
def zhy:WS:=sSub opSt 0 (oVal (wC (.int 0))) (w2 zqC (oVal (w2 opIx (oPk 0) (oVal (wC (.int 0))))) (oPk 1))
def zf1:WS:=sRet (oPk 2)
def zok:WS:=sSeq (zkq) (sSeq (zhy) (zf1))
abbrev zqU:Type:=D×List D
def zaH (held_1:List D) (many_1:D):R (zqU) :=
 R.bind (nIx (.lst held_1) (.int 0)) λt_1 =>
 R.bind (nMod t_1 many_1) λt_2 =>
 R.bind (nIx (.lst held_1) (.int 0)) λt_3 =>
 R.bind (zvj t_3 many_1) λt_4 =>
 R.bind (nStL held_1 (.int 0) t_4) λheld_2 =>
 .ok (t_2,held_2)
abbrev zji (ms:List M) (Q:M->En->Prop) (X:Xn->Prop):Prop:=∃ (held_1:List D) (many_1:D),ms=[(.lst held_1),(.fz many_1)]/\(zaH held_1 many_1).post (λr=>Q (M.fz r.1) [some (.lst r.2),none]) X
abbrev zaq:Fn:=⟨2,[0],zji⟩
theorem znd:zcS zji:=λms Q Q' X X' hq hx ⟨held_1,many_1,e,h⟩=>⟨held_1,many_1,e,zaG h (λ_ h=>hq _ _ h) hx⟩
theorem zs0 (ms:List M) (Q:M->En->Prop) (X:Xn->Prop) (h:zji ms Q X):wFn 3 2 [0] zok ms Q X:=by
 obtain ⟨held_1,many_1,rfl,h⟩:=h
 refine zcF (e0:=[some (.lst held_1),some (.fz many_1),none]) rfl λE hrt hnx hx => ?_
 show (sSeq zkq (sSeq zhy (zf1))) _ _
 refine zaz (zaT (k_w2 (zad (k_w2 (k_pk rfl (zad (k_c (k_wp rfl (k_wv (k_ix h λt_1 h=>k_pk rfl (k_wv (k_wp rfl (zm7 h λt_2 h => ?_)))))))))))))
 show (sSeq zhy (zf1)) _ [some (.lst held_1),some (.fz many_1),some (.fz t_2)]
 refine zaz (ztZ (k_w2 (zad (k_w2 (k_pk rfl (zad (k_c (k_wp rfl (k_wv (k_ix h λt_3 h=>k_pk rfl (k_wv (k_wp rfl (k_divW h λt_4 h=>zt0 rfl (zad (k_c (zt1 rfl rfl (k_wv (k_stL h λheld_2 h => ?_))))))))))))))))))
 show zf1 _ [some (.lst held_2),some (.fz many_1),some (.fz t_2)]
 refine zod rfl (?_)
 exact hrt _ _ h
def zjj:WS:=sSet 2 (wC (.str "abcdefghijklmnop"))
def zgw:WS:=sSet 3 (wMt "str" zf9 (oVal (wC (.str ""))) (zag (oVal (wLc (iR1 (oVal (w2 zaS (oVal (wC (.int 2))) (oVal (za0 zaq (zag (oPk 0) (zag (oVal (wC (.int 6))) (aNil)))))))) (.nm 8) (zdp) (w2 opIx (oPk 2) (oVal (za0 zaq (zag (oPk 0) (zag (oVal (wC (.int 16))) (aNil)))))) [8])) (aNil)))
def ze6:WS:=sSet 4 (za0 zaq (zag (oPk 0) (zag (oFz (wN zdr (zag (oPk 3) (aNil)))) (aNil))))
def zee:WS:=sSet 5 (w2 opIx (oPk 2) (oVal (w2 zkP (oVal (w2 zaS (oVal (w2 zaS (oVal (wMt "str" zsF (oPk 2) (zag (oVal (w2 opIx (oPk 3) (oPk 4))) (aNil)))) (oVal (wC (.int 1))))) (oVal (za0 zaq (zag (oPk 0) (zag (oVal (wC (.int 15))) (aNil))))))) (oVal (wC (.int 16))))))
def zdu:WS:=sSet 6 (wN zcd (zag (oFz (wVar 3)) (zag (oFz (w2 zaS (oVal (w2 zaS (oVal (wSl opSl (oPk 3) (pNo) (pInt (wVar 4)))) (oPk 5))) (oVal (wSl opSl (oPk 3) (pInt (w2 zaS (oPk 4) (oVal (wC (.int 1))))) (pNo))))) (zag (oFz (w2 zaS (oPk 3) (oPk 5))) (zag (oFz (wSl opSl (oPk 3) (pNo) (pInt (w1 zuN (oVal (wC (.int 1))))))) (aNil))))))
def zcT:WS:=sSet 7 (za0 zaq (zag (oPk 0) (zag (oVal (wC (.int 4))) (aNil))))
def zch:WS:=sRet (oVal (wLc (iR1 (oPk 1)) (.nm 8) (zdp) (w2 opIx (oPk 6) (oVal (w2 zkP (oVal (w2 zaS (oPk 7) (oPk 8))) (oVal (wC (.int 4)))))) [8]))
def zl8:WS:=sSeq (zjj) (sSeq (zgw) (sSeq (ze6) (sSeq (zee) (sSeq (zdu) (sSeq (zcT) (zch))))))
abbrev zo4:Type:=List D×List D
def zeP (held_1:List D) (many_1:D):R (zo4) :=
 R.bind (zaH held_1 (.int 6)) λt_1 =>
 R.bind (nAdd (.int 2) t_1.1) λt_2 =>
 R.bind (nR1 t_2.d) λds_1 =>
 R.bind (lcS (λ(d_2:D) (s:List D)=>R.bind (zaH s (.int 16)) λt_5=>R.bind (nIx (.str "abcdefghijklmnop") t_5.1) λt_6=>.ok ((t_6,t_5.2))) ds_1 t_1.2) λxs_1 =>
 R.bind (zhp (.str "") (.lst xs_1.1)) λt_7 =>
 R.bind (nLen t_7) λt_8 =>
 R.bind (zaH xs_1.2 t_8) λt_9 =>
 R.bind (nIx t_7 t_9.1) λt_10 =>
 R.bind (nSIx (.str "abcdefghijklmnop") t_10) λt_11 =>
 R.bind (nAdd t_11 (.int 1)) λt_12 =>
 R.bind (zaH t_9.2 (.int 15)) λt_13 =>
 R.bind (nAdd t_12.d t_13.1) λt_14 =>
 R.bind (nMod t_14.d (.int 16)) λt_15 =>
 R.bind (nIx (.str "abcdefghijklmnop") t_15) λt_16 =>
 R.bind (nInt t_9.1) λi_1 =>
 R.bind (nSl t_7 none (some i_1)) λt_17 =>
 R.bind (nAdd t_17.d t_16) λt_18 =>
 R.bind (nAdd t_9.1 (.int 1)) λt_19 =>
 R.bind (nInt t_19.d) λi_2 =>
 R.bind (nSl t_7 (some i_2) none) λt_20 =>
 R.bind (nAdd t_18.d t_20.d) λt_21 =>
 R.bind (nAdd t_7 t_16) λt_22 =>
 R.bind (nNeg (.int 1)) λt_23 =>
 R.bind (nInt t_23) λi_3 =>
 R.bind (nSl t_7 none (some i_3)) λt_24 =>
 R.bind (zaH t_13.2 (.int 4)) λt_25 =>
 R.bind (nR1 many_1) λds_2 =>
 R.bind (lcM (λd_3:D=>R.bind (nAdd t_25.1 d_3) λt_26=>R.bind (nMod t_26.d (.int 4)) λt_27=>nIx (.lst [t_7,t_21.d,t_22.d,t_24.d]) t_27) ds_2) λxs_2 =>
 .ok (xs_2,t_25.2)
abbrev zhz (ms:List M) (Q:M->En->Prop) (X:Xn->Prop):Prop:=∃ (held_1:List D) (many_1:D),ms=[(.lst held_1),(.fz many_1)]/\(zeP held_1 many_1).post (λr=>Q (M.lst r.1) [some (.lst r.2),none]) X
abbrev zgY:Fn:=⟨2,[0],zhz⟩
theorem zl9:zcS zhz:=λms Q Q' X X' hq hx ⟨held_1,many_1,e,h⟩=>⟨held_1,many_1,e,zaG h (λ_ h=>hq _ _ h) hx⟩
theorem zqV (ms:List M) (Q:M->En->Prop) (X:Xn->Prop) (h:zhz ms Q X):wFn 9 2 [0] zl8 ms Q X:=by
 obtain ⟨held_1,many_1,rfl,h⟩:=h
 refine zcF (e0:=[some (.lst held_1),some (.fz many_1),none,none,none,none,none,none,none]) rfl λE hrt hnx hx => ?_
 show (sSeq zjj (sSeq zgw (sSeq ze6 (sSeq zee (sSeq zdu (sSeq zcT (zch))))))) _ _
 refine zaz (zaT (k_c (?_)))
 show (sSeq zgw (sSeq ze6 (sSeq zee (sSeq zdu (sSeq zcT (zch)))))) _ [some (.lst held_1),some (.fz many_1),some (.fz (.str "abcdefghijklmnop")),none,none,none,none,none,none]
 refine zaz (zaT (zin (zad (k_c (⟨k_wv (rfl),k_ac (zad (k_lc (zk1 (zad (k_w2 (zad (k_c (zad (zaI (k_ac (k_pk rfl (k_ac (zad (k_c (k_an (zcE rfl (za7 (zbh ⟨rfl,_,_,rfl,zaL h (λt_1 h=>k_wv (k_wv (zbJ h λt_2 h=>k_wv (k_r1 h λds_1 h=>zt6 (λs=>[some (.lst s),some (.fz many_1),some (.fz (.str "abcdefghijklmnop")),none,none,none,none,none,none]) t_1.2 rfl h (λd_2 s S KK hk h=>g_nm (k_w2 (k_pk rfl (zad (zaI (k_ac (k_pk rfl (k_ac (zad (k_c (k_an (zcE rfl (za7 (zbh ⟨rfl,_,_,rfl,zaL h (λt_5 h=>k_wp rfl (k_wv (k_ix h λt_6 h=>hk _ _ t_5.2 rfl h))) (λ_ z=>z.elim)⟩)))))))))))))) λxs_1 h=>k_an (k_wv (zap (zat (zi2 h λt_7 h => ?_)))))))) (λx z=>hx x _ z)⟩))))))))))))))))))⟩)))))
 show (sSeq ze6 (sSeq zee (sSeq zdu (sSeq zcT (zch))))) _ [some (.lst xs_1.2),some (.fz many_1),some (.fz (.str "abcdefghijklmnop")),some (.fz t_7),none,none,none,none,none]
 refine zaz (zaT (zaI (k_ac (k_pk rfl (k_ac (k_fz (k_wN (k_ac (k_pk rfl (k_an (zcD rfl (zat (zdY h λt_8 h=>k_an (zcE rfl (za7 (zbh ⟨rfl,_,_,rfl,zaL h (λt_9 h => ?_) (λx z=>hx x _ z)⟩))))))))))))))))
 show (sSeq zee (sSeq zdu (sSeq zcT (zch)))) _ [some (.lst t_9.2),some (.fz many_1),some (.fz (.str "abcdefghijklmnop")),some (.fz t_7),some (.fz t_9.1),none,none,none,none]
 refine zaz (zaT (k_w2 (k_pk rfl (zad (k_w2 (zad (k_w2 (zad (k_w2 (zad (zin (k_pk rfl (⟨k_wp rfl (rfl),k_ac (zad (k_w2 (k_pk rfl (k_pk rfl (k_wp rfl (k_wp rfl (k_ix h λt_10 h=>k_an (k_wp rfl (zap (zat (k_six h λt_11 h=>zad (k_c (k_wv (k_wv (zbJ h λt_12 h=>zad (zaI (k_ac (k_pk rfl (k_ac (zad (k_c (k_an (zcE rfl (za7 (zbh ⟨rfl,_,_,rfl,zaL h (λt_13 h=>k_wv (k_wv (zbJ h λt_14 h=>zad (k_c (k_wv (k_wv (zm7 h λt_15 h=>k_wp rfl (k_wv (k_ix h λt_16 h => ?_))))))))) (λx z=>hx x _ z)⟩)))))))))))))))))))))))))⟩)))))))))))))
 show (sSeq zdu (sSeq zcT (zch))) _ [some (.lst t_13.2),some (.fz many_1),some (.fz (.str "abcdefghijklmnop")),some (.fz t_7),some (.fz t_9.1),some (.fz t_16),none,none,none]
 refine zaz (zaT (k_wN (k_ac (k_fz (zaC rfl (k_ac (k_fz (k_w2 (zad (k_w2 (zad (zcq (k_pk rfl (zcr (zbn (zaC rfl (zbo h λi_1 h=>k_wp rfl (k_sl h λt_17 h=>k_pk rfl (k_wv (k_wp rfl (zbJ h λt_18 h=>zad (zcq (k_pk rfl (zbn (k_w2 (k_pk rfl (zad (k_c (k_wp rfl (k_wv (zbJ h λt_19 h=>zbo h λi_2 h=>zcr (k_wp rfl (k_sl h λt_20 h=>k_wv (k_wv (zbJ h λt_21 h=>k_ac (k_fz (k_w2 (k_pk rfl (k_pk rfl (k_wp rfl (k_wp rfl (zbJ h λt_22 h=>k_ac (k_fz (zcq (k_pk rfl (zcr (zbn (k_w1 (zad (k_c (k_wv (k_neg h λt_23 h=>zbo h λi_3 h=>k_wp rfl (k_sl h λt_24 h=>k_an (zap (zap (zap (zap (zat (zdb rfl rfl (?_))))))))))))))))))))))))))))))))))))))))))))))))))))))))))))
 show (sSeq zcT (zch)) _ [some (.lst t_13.2),some (.fz many_1),some (.fz (.str "abcdefghijklmnop")),some (.fz t_7),some (.fz t_9.1),some (.fz t_16),some (.lst [t_7,t_21.d,t_22.d,t_24.d]),none,none]
 refine zaz (zaT (zaI (k_ac (k_pk rfl (k_ac (zad (k_c (k_an (zcE rfl (za7 (zbh ⟨rfl,_,_,rfl,zaL h (λt_25 h => ?_) (λx z=>hx x _ z)⟩)))))))))))
 show zch _ [some (.lst t_25.2),some (.fz many_1),some (.fz (.str "abcdefghijklmnop")),some (.fz t_7),some (.fz t_9.1),some (.fz t_16),some (.lst [t_7,t_21.d,t_22.d,t_24.d]),some (.fz t_25.1),none]
 refine za2 (k_lc (zk1 (k_pk rfl (k_wp rfl (k_r1 h λds_2 h=>zi8 h (λd_3 S KK hk h=>g_nm (k_w2 (k_pk rfl (zad (k_w2 (zad (k_w2 (k_pk rfl (k_pk rfl (k_wp rfl (k_wp rfl (zbJ h λt_26 h=>zad (k_c (k_wv (k_wv (zm7 h λt_27 h=>k_wp rfl (k_wv (k_ix (tl h) λt_28 h=>hk _ _ rfl h)))))))))))))))))) λxs_2 h=>hrt _ _ h)))))
def zjk:WS:=sSet 1 (wKl [.str "a",.str "add",.str "adder",.str "cut",.str "ring",.str "outer",.str "rule",.str "abcdefgh"])
def zgx:WS:=sSet 2 (za0 zaq (zag (oPk 0) (zag (oVal (wC (.int 8))) (aNil))))
def ze7:WS:=sSet 3 (wLc (iR1 (oVal (wC (.int 4)))) (.nm 6) (zdp) (w2 opIx (oPk 1) (oVal (w2 zkP (oVal (w2 zaS (oPk 2) (oVal (w2 zgn (oVal (wC (.int 3))) (oPk 6))))) (oVal (wC (.int 8)))))) [6])
def zef:WS:=sIf (tVal (w2 (opEq false) (oVal (za0 zaq (zag (oPk 0) (zag (oVal (wC (.int 2))) (aNil))))) (oVal (wC (.int 0)))))
 (sSet 3 (za0 zgY (zag (oPk 0) (zag (oVal (wC (.int 4))) (aNil)))))
 (sNx)
def zdv:WS:=sSet 4 (za0 zgY (zag (oPk 0) (zag (oFz (w2 zaS (oVal (wC (.int 1))) (oVal (za0 zaq (zag (oPk 0) (zag (oVal (wC (.int 3))) (aNil))))))) (aNil))))
def zcU:WS:=sSet 5 (wN zcd (aNil))
def zjW:WS:=sSet 7 (wN zcd (aNil))
def zfH:WS:=zoN (wMut "list" zgP 7 (zag (oFz (wN zfo (zag (oFz (w2 opIx (oPk 4) (oVal (za0 zaq (zag (oPk 0) (zag (oFz (wN zdr (zag (oPk 4) (aNil)))) (aNil))))))) (zag (oFz (w2 opIx (oVal (wC (.str "+-"))) (oVal (za0 zaq (zag (oPk 0) (zag (oVal (wC (.int 2))) (aNil))))))) (aNil))))) (aNil)))
def zgc:WS:=sFor (iR1 (oVal (w2 zaS (oVal (wC (.int 1))) (oVal (za0 zaq (zag (oPk 0) (zag (oVal (wC (.int 4))) (aNil)))))))) (.nm 8)
 (zfH)
def zeF:WS:=sIf (zr1 (tVal (w2 (opEq true) (oPk 5) (oVal (wN zcd (aNil))))) (tVal (w2 (opEq false) (oVal (za0 zaq (zag (oPk 0) (zag (oVal (wC (.int 3))) (aNil))))) (oVal (wC (.int 0))))))
 (sSet 7 (w2 opIx (oVal (w2 opIx (oPk 5) (oVal (wC (.int 0))))) (oVal (wC (.int 1)))))
 (sNx)
def zdC:WS:=zoN (wMut "list" zgP 5 (zag (oFz (wN zfo (zag (oFz (w2 opIx (oPk 3) (oPk 6))) (zag (oFz (wN ze1 (zag (oPk 7) (aNil)))) (aNil))))) (aNil)))
def zh2:WS:=sSeq (zjW) (sSeq (zgc) (sSeq (zeF) (zdC)))
def zci:WS:=sFor (iR1 (oVal (w2 zaS (oVal (wC (.int 1))) (oVal (za0 zaq (zag (oPk 0) (zag (oVal (wC (.int 4))) (aNil)))))))) (.nm 6)
 (zh2)
def zbV:WS:=sRet (oVal (wN ze1 (zag (oVal (wN ziB (zag (oPk 5) (aNil)))) (aNil))))
def zma:WS:=sSeq (zjk) (sSeq (zgx) (sSeq (ze7) (sSeq (zef) (sSeq (zdv) (sSeq (zcU) (sSeq (zci) (zbV)))))))
abbrev zo5:Type:=D×List D
def zew (t_12:List D×List D) (d_3:D) (s_3:List D×List D):R (List D×List D) :=
 R.bind (nLen (.lst t_12.1)) λt_17 =>
 R.bind (zaH s_3.1 t_17) λt_18 =>
 R.bind (nIx (.lst t_12.1) t_18.1) λt_19 =>
 R.bind (zaH t_18.2 (.int 2)) λt_20 =>
 R.bind (nIx (.str "+-") t_20.1) λt_21 =>
 R.bind (nApp s_3.2 (.tup [t_19,t_21])) λports_1 =>
 .ok (t_20.2,ports_1)
def zex (t_12:List D×List D) (s_1:List D×List D) (d_2:D) (s_2:List D×List D):R (List D×List D) :=
 R.bind (zaH s_2.1 (.int 4)) λt_15 =>
 R.bind (nAdd (.int 1) t_15.1) λt_16 =>
 R.bind (nR1 t_16.d) λds_3 =>
 R.bind (R.forS (zew t_12) ds_3 (t_15.2,([]:List D))) λs_4 =>
 R.bind (nEq true (.lst s_2.2) (.lst ([]:List D))) λt_22 =>
 R.bind (if t_22=true then (R.bind (zaH s_4.1 (.int 3)) λt_23=>R.bind (nEq false t_23.1 (.int 0)) λt_24=>.ok ((t_24,t_23.2)):R (Bool×List D)) else .ok ((false,s_4.1))) λc_1 =>
 R.bind (if c_1.1=true then (R.bind (nIx (.lst s_2.2) (.int 0)) λt_27 =>
 R.bind (nIx t_27 (.int 1)) λt_28 =>
 .ok (.fz t_28):R (M)) else .ok (.lst s_4.2)) λs_5 =>
 R.bind (nIx (.lst s_1.2) d_2) λt_29 =>
 R.bind (zcC s_5.d) λt_30 =>
 R.bind (nApp s_2.2 (.tup [t_29,t_30])) λrows_1 =>
 .ok (c_1.2,rows_1)
def zfI (held_1:List D):R (zo5) :=
 R.bind (zaH held_1 (.int 8)) λt_1 =>
 R.bind (nR1 (.int 4)) λds_1 =>
 R.bind (lcM (λd_1:D=>R.bind (nMul (.int 3) d_1) λt_2=>R.bind (nAdd t_1.1 t_2.d) λt_3=>R.bind (nMod t_3.d (.int 8)) λt_4=>nIx (.lst [.str "a",.str "add",.str "adder",.str "cut",.str "ring",.str "outer",.str "rule",.str "abcdefgh"]) t_4) ds_1) λxs_1 =>
 R.bind (zaH t_1.2 (.int 2)) λt_6 =>
 R.bind (nEq false t_6.1 (.int 0)) λt_7 =>
 R.bind (if t_7=true then (R.bind (zeP t_6.2 (.int 4)) λt_9 =>
 .ok (t_9.2,t_9.1):R (List D×List D)) else .ok (t_6.2,xs_1)) λs_1 =>
 R.bind (zaH s_1.1 (.int 3)) λt_10 =>
 R.bind (nAdd (.int 1) t_10.1) λt_11 =>
 R.bind (zeP t_10.2 t_11.d) λt_12 =>
 R.bind (zaH t_12.2 (.int 4)) λt_13 =>
 R.bind (nAdd (.int 1) t_13.1) λt_14 =>
 R.bind (nR1 t_14.d) λds_2 =>
 R.bind (R.forS (zex t_12 s_1) ds_2 (t_13.2,([]:List D))) λs_6 =>
 R.bind (zi1 (.lst s_6.2)) λt_31 =>
 R.bind (zcC (.lst t_31)) λt_32 =>
 .ok (t_32,s_6.1)
abbrev zhA (ms:List M) (Q:M->En->Prop) (X:Xn->Prop):Prop:=∃ (held_1:List D),ms=[(.lst held_1)]/\(zfI held_1).post (λr=>Q (M.fz r.1) [some (.lst r.2)]) X
abbrev zgZ:Fn:=⟨1,[0],zhA⟩
theorem zmb:zcS zhA:=λms Q Q' X X' hq hx ⟨held_1,e,h⟩=>⟨held_1,e,zaG h (λ_ h=>hq _ _ h) hx⟩
theorem zqW (ms:List M) (Q:M->En->Prop) (X:Xn->Prop) (h:zhA ms Q X):wFn 9 1 [0] zma ms Q X:=by
 obtain ⟨held_1,rfl,h⟩:=h
 refine zcF (e0:=[some (.lst held_1),none,none,none,none,none,none,none,none]) rfl λE hrt hnx hx => ?_
 show (sSeq zjk (sSeq zgx (sSeq ze7 (sSeq zef (sSeq zdv (sSeq zcU (sSeq zci (zbV)))))))) _ _
 refine zaz (zaT (k_kl (?_)))
 show (sSeq zgx (sSeq ze7 (sSeq zef (sSeq zdv (sSeq zcU (sSeq zci (zbV))))))) _ [some (.lst held_1),some (.lst [.str "a",.str "add",.str "adder",.str "cut",.str "ring",.str "outer",.str "rule",.str "abcdefgh"]),none,none,none,none,none,none,none]
 refine zaz (zaT (zaI (k_ac (k_pk rfl (k_ac (zad (k_c (k_an (zcE rfl (za7 (zbh ⟨rfl,_,_,rfl,zaL h (λt_1 h => ?_) (λx z=>hx x _ z)⟩)))))))))))
 show (sSeq ze7 (sSeq zef (sSeq zdv (sSeq zcU (sSeq zci (zbV)))))) _ [some (.lst t_1.2),some (.lst [.str "a",.str "add",.str "adder",.str "cut",.str "ring",.str "outer",.str "rule",.str "abcdefgh"]),some (.fz t_1.1),none,none,none,none,none,none]
 refine zaz (zaT (k_lc (zk1 (zad (k_c (k_wv (k_r1 h λds_1 h=>zi8 h (λd_1 S KK hk h=>g_nm (k_w2 (k_pk rfl (zad (k_w2 (zad (k_w2 (k_pk rfl (zad (k_w2 (zad (k_c (k_pk rfl (k_wv (k_wp rfl (zm8 h λt_2 h=>k_wp rfl (k_wv (zbJ h λt_3 h=>zad (k_c (k_wv (k_wv (zm7 h λt_4 h=>k_wp rfl (k_wv (k_ix (tl h) λt_5 h=>hk _ _ rfl h)))))))))))))))))))))))) λxs_1 h => ?_)))))))
 show (sSeq zef (sSeq zdv (sSeq zcU (sSeq zci (zbV))))) _ [some (.lst t_1.2),some (.lst [.str "a",.str "add",.str "adder",.str "cut",.str "ring",.str "outer",.str "rule",.str "abcdefgh"]),some (.fz t_1.1),some (.lst xs_1),none,none,none,none,none]
 refine zaz (zdQ (zbg (k_w2 (zad (zaI (k_ac (k_pk rfl (k_ac (zad (k_c (k_an (zcE rfl (za7 (zbh ⟨rfl,_,_,rfl,zaL h (λt_6 h=>zad (k_c (k_wv (k_wv (k_eq h λt_7 h=>j_tv (ztY (λ(s_1:List D×List D) (j_1:Unit)=>[some (.lst s_1.1),some (.lst [.str "a",.str "add",.str "adder",.str "cut",.str "ring",.str "outer",.str "rule",.str "abcdefgh"]),some (.fz t_1.1),some (.lst s_1.2),none,none,none,none,none]) h (λJ h => ?_) (λJ h => ?_) (λs_1 j_1 h => ?_))))))) (λx z=>hx x _ z)⟩))))))))))))))
 ·refine zaT (zaI (k_ac (k_pk rfl (k_ac (zad (k_c (k_an (zcE rfl (za7 (zbh ⟨rfl,_,_,rfl,zaL (asc h) (λt_9 h => ?_) (λx z=>hx x _ z)⟩))))))))))
  exact J (t_9.2,t_9.1) () h
 ·refine k_nx ?_
  exact J (t_6.2,xs_1) () h
 ·show (sSeq zdv (sSeq zcU (sSeq zci (zbV)))) _ [some (.lst s_1.1),some (.lst [.str "a",.str "add",.str "adder",.str "cut",.str "ring",.str "outer",.str "rule",.str "abcdefgh"]),some (.fz t_1.1),some (.lst s_1.2),none,none,none,none,none]
  refine zaz (zaT (zaI (k_ac (k_pk rfl (k_ac (k_fz (k_w2 (zad (k_c (zad (zaI (k_ac (k_pk rfl (k_ac (zad (k_c (k_an (zcE rfl (za7 (zbh ⟨rfl,_,_,rfl,zaL h (λt_10 h=>k_wv (k_wv (zbJ h λt_11 h=>k_an (zcE rfl (za7 (zbh ⟨rfl,_,_,rfl,zaL h (λt_12 h => ?_) (λx z=>hx x _ z)⟩)))))) (λx z=>hx x _ z)⟩))))))))))))))))))))
  show (sSeq zcU (sSeq zci (zbV))) _ [some (.lst t_12.2),some (.lst [.str "a",.str "add",.str "adder",.str "cut",.str "ring",.str "outer",.str "rule",.str "abcdefgh"]),some (.fz t_1.1),some (.lst s_1.2),some (.lst t_12.1),none,none,none,none]
  refine zaz (zaT (k_wN (k_an (zat (zdb rfl rfl (?_))))))
  show (sSeq zci (zbV)) _ [some (.lst t_12.2),some (.lst [.str "a",.str "add",.str "adder",.str "cut",.str "ring",.str "outer",.str "rule",.str "abcdefgh"]),some (.fz t_1.1),some (.lst s_1.2),some (.lst t_12.1),some (.lst ([]:List D)),none,none,none]
  refine zaz (zk2 (zk1 (zad (k_w2 (zad (k_c (zad (zaI (k_ac (k_pk rfl (k_ac (zad (k_c (k_an (zcE rfl (za7 (zbh ⟨rfl,_,_,rfl,zaL h (λt_13 h=>k_wv (k_wv (zbJ h λt_14 h=>k_wv (k_r1 h λds_2 h=>zk3 (λ(s_2:List D×List D) (j_2:Option M×Option M×Option M)=>[some (.lst s_2.1),some (.lst [.str "a",.str "add",.str "adder",.str "cut",.str "ring",.str "outer",.str "rule",.str "abcdefgh"]),some (.fz t_1.1),some (.lst s_1.2),some (.lst t_12.1),some (.lst s_2.2),j_2.1,j_2.2.1,j_2.2.2]) ?_ ?_ _ (t_13.2,([]:List D)) (none,none,none) h)))) (λx z=>hx x _ z)⟩)))))))))))))))))
  ·intro d_2 s_2 j_2 N S hn h
   refine g_nm (?_)
   show zh2 _ [some (.lst s_2.1),some (.lst [.str "a",.str "add",.str "adder",.str "cut",.str "ring",.str "outer",.str "rule",.str "abcdefgh"]),some (.fz t_1.1),some (.lst s_1.2),some (.lst t_12.1),some (.lst s_2.2),some (.fz d_2),j_2.2.1,j_2.2.2]
   refine zaz (zaT (k_wN (k_an (zat (zdb rfl rfl (?_))))))
   show (sSeq zgc (sSeq zeF (zdC))) _ [some (.lst s_2.1),some (.lst [.str "a",.str "add",.str "adder",.str "cut",.str "ring",.str "outer",.str "rule",.str "abcdefgh"]),some (.fz t_1.1),some (.lst s_1.2),some (.lst t_12.1),some (.lst s_2.2),some (.fz d_2),some (.lst ([]:List D)),j_2.2.2]
   refine zaz (zk2 (zk1 (zad (k_w2 (zad (k_c (zad (zaI (k_ac (k_pk rfl (k_ac (zad (k_c (k_an (zcE rfl (za7 (zbh ⟨rfl,_,_,rfl,zaL h (λt_15 h=>k_wv (k_wv (zbJ h λt_16 h=>k_wv (k_r1 h λds_3 h=>zk3 (λ(s_3:List D×List D) (j_3:Option M)=>[some (.lst s_3.1),some (.lst [.str "a",.str "add",.str "adder",.str "cut",.str "ring",.str "outer",.str "rule",.str "abcdefgh"]),some (.fz t_1.1),some (.lst s_1.2),some (.lst t_12.1),some (.lst s_2.2),some (.fz d_2),some (.lst s_3.2),j_3]) ?_ ?_ _ (t_15.2,([]:List D)) j_2.2.2 h)))) (λx z=>hx x _ z)⟩)))))))))))))))))
   ·intro d_3 s_3 j_3 N S hn h
    refine g_nm (?_)
    show zfH _ [some (.lst s_3.1),some (.lst [.str "a",.str "add",.str "adder",.str "cut",.str "ring",.str "outer",.str "rule",.str "abcdefgh"]),some (.fz t_1.1),some (.lst s_1.2),some (.lst t_12.1),some (.lst s_2.2),some (.fz d_2),some (.lst s_3.2),some (.fz d_3)]
    refine zqA (zsL rfl rfl (k_ac (k_fz (k_wN (k_ac (k_fz (k_w2 (k_pk rfl (zad (zaI (k_ac (k_pk rfl (k_ac (k_fz (k_wN (k_ac (k_pk rfl (k_an (zcD rfl (zat (zdY h λt_17 h=>k_an (zcE rfl (za7 (zbh ⟨rfl,_,_,rfl,zaL h (λt_18 h=>k_wp rfl (k_wv (k_ix h λt_19 h=>k_ac (k_fz (k_w2 (zad (k_c (zad (zaI (k_ac (k_pk rfl (k_ac (zad (k_c (k_an (zcE rfl (za7 (zbh ⟨rfl,_,_,rfl,zaL h (λt_20 h=>k_wv (k_wv (k_ix h λt_21 h=>k_an (zap (zap (zat (zgS rfl rfl (k_an (zsM rfl rfl (zap (zat (zvc h λports_1 h => ?_)))))))))))) (λx z=>hx x _ z)⟩)))))))))))))))))) (λx z=>hx x _ z)⟩))))))))))))))))))))))))
    exact hn (t_20.2,ports_1) (some (.fz d_3)) h
   ·intro s_4 j_4 h
    show (sSeq zeF (zdC)) _ [some (.lst s_4.1),some (.lst [.str "a",.str "add",.str "adder",.str "cut",.str "ring",.str "outer",.str "rule",.str "abcdefgh"]),some (.fz t_1.1),some (.lst s_1.2),some (.lst t_12.1),some (.lst s_2.2),some (.fz d_2),some (.lst s_4.2),j_4]
    refine zaz (zdQ (k_tand (zbg (k_w2 (k_pk rfl (zad (k_wN (k_an (zat (zdb rfl rfl (k_wp rfl (k_wv (k_eq h λt_22 h=>j_tv (j_tand (λv=>v.1) (λv=>[some (.lst v.2),some (.lst [.str "a",.str "add",.str "adder",.str "cut",.str "ring",.str "outer",.str "rule",.str "abcdefgh"]),some (.fz t_1.1),some (.lst s_1.2),some (.lst t_12.1),some (.lst s_2.2),some (.fz d_2),some (.lst s_4.2),j_4]) h (λJ2 h=>zbg (k_w2 (zad (zaI (k_ac (k_pk rfl (k_ac (zad (k_c (k_an (zcE rfl (za7 (zbh ⟨rfl,_,_,rfl,zaL (asc h) (λt_23 h=>zad (k_c (k_wv (k_wv (k_eq (asc h) λt_24 h=>j_tv (J2 (t_24,t_23.2) h)))))) (λx z=>hx x _ z)⟩))))))))))))) (λJ2 h=>J2 (false,s_4.1) h) (λc_1 h=>ztY (λ(s_5:M) (j_5:Unit)=>[some (.lst c_1.2),some (.lst [.str "a",.str "add",.str "adder",.str "cut",.str "ring",.str "outer",.str "rule",.str "abcdefgh"]),some (.fz t_1.1),some (.lst s_1.2),some (.lst t_12.1),some (.lst s_2.2),some (.fz d_2),some s_5,j_4]) h (λJ h => ?_) (λJ h => ?_) (λs_5 j_5 h => ?_))))))))))))))))
    ·refine zaT (k_w2 (zad (k_w2 (k_pk rfl (zad (k_c (k_wp rfl (k_wv (k_ix (asc h) λt_27 h=>zad (k_c (k_wv (k_wv (k_ix (asc h) λt_28 h => ?_)))))))))))))
     exact J (.fz t_28) () h
    ·refine k_nx ?_
     exact J (.lst s_4.2) () h
    ·show zdC _ [some (.lst c_1.2),some (.lst [.str "a",.str "add",.str "adder",.str "cut",.str "ring",.str "outer",.str "rule",.str "abcdefgh"]),some (.fz t_1.1),some (.lst s_1.2),some (.lst t_12.1),some (.lst s_2.2),some (.fz d_2),some s_5,j_4]
     refine zqA (zsL rfl rfl (k_ac (k_fz (k_wN (k_ac (k_fz (k_w2 (k_pk rfl (k_pk rfl (k_wp rfl (k_wp rfl (k_ix h λt_29 h=>k_ac (k_fz (k_wN (k_ac (k_pk rfl (k_an (zcD rfl (zat (zhq h λt_30 h=>k_an (zap (zap (zat (zgS rfl rfl (k_an (zsM rfl rfl (zap (zat (zvc h λrows_1 h => ?_)))))))))))))))))))))))))))))
     exact hn (c_1.2,rows_1) ((some (.fz d_2)),(some s_5),j_4) h
  ·intro s_6 j_6 h
   show zbV _ [some (.lst s_6.1),some (.lst [.str "a",.str "add",.str "adder",.str "cut",.str "ring",.str "outer",.str "rule",.str "abcdefgh"]),some (.fz t_1.1),some (.lst s_1.2),some (.lst t_12.1),some (.lst s_6.2),j_6.1,j_6.2.1,j_6.2.2]
   refine za2 (k_wN (k_ac (zad (k_wN (k_ac (k_pk rfl (k_an (zcD rfl (zat (zsJ h λt_31 h=>k_an (zap (zat (zhq h λt_32 h=>hrt _ _ h)))))))))))))
end VW
set_option maxHeartbeats 4000000
namespace VW
open PySem PySem.Spec PyProof.Rows L2 R
abbrev zmc:Type:=Bool
@[irreducible] def zjl (thing_1:D):R (zmc) :=
  R.bind (nIsi "int" thing_1) λt_1 =>
  R.bind (andB t_1 (R.bind (nIsi "bool" thing_1) λt_2=>.ok ((!t_2)))) λc_1 =>
  .ok c_1
abbrev zjX:Type:=List (List Key×D)
def zir (d_1:D) (s_1:List (List Key×D)):R (List (List Key×D)) :=
 R.bind (nUn2 d_1) λp_1 =>
 R.bind (nStT s_1 p_1.1 p_1.2) λfound_1 =>
 R.bind (nStT found_1 p_1.2 p_1.1) λfound_2 =>
 .ok found_2
@[irreducible] def zbW (wires_1:D):R (zjX) :=
  R.bind (zbf wires_1) λds_1 =>
  R.bind (R.forS (zir) ds_1 ([]:List (List Key×D))) λs_2 =>
  .ok s_2
abbrev zqX:Type:=D
@[irreducible] def zla (spec_1:D):R (zqX) :=
  R.bind (nIx spec_1 (.int 0)) λt_1 =>
  R.bind (nIx spec_1 (.int 1)) λt_2 =>
  R.bind (nEq false t_2 (.str "+")) λt_3 =>
  R.bind (if t_3=true then (.ok ((.str "-")):R (D)) else .ok ((.str "+"))) λt_4 =>
  .ok (.tup [t_1,t_4])
def zjm:WS:=sSet 2 (wLr1 (oPk 1))
def zgy:WS:=sSet 3 (wN zcd (aNil))
def zh3:WS:=zoN (wMut "list" zgP 3 (zag (oFz (wMut "list" zlQ 2 (zag (oFz (za0 zaq (zag (oPk 0) (zag (oFz (wN zdr (zag (oPk 2) (aNil)))) (aNil))))) (aNil)))) (aNil)))
def ze8:WS:=zlJ (tVal (w2 (opEq true) (oPk 2) (oVal (wN zcd (aNil)))))
 (zh3)
def zcV:WS:=sRet (oPk 3)
def zmd:WS:=sSeq (zjm) (sSeq (zgy) (sSeq (ze8) (zcV)))
abbrev zhB:Type:=List D×List D
def zey (s_1:List D×List D×List D) (K A:(List D×List D×List D)->R (zhB)):R (zhB) :=
 R.bind (nEq true (.lst s_1.2.1) (.lst ([]:List D))) λt_2 =>
 if t_2=true then
 R.bind (nLen (.lst s_1.2.1)) λt_3 =>
 R.bind (zaH s_1.1 t_3) λt_4 =>
 R.bind (nPop s_1.2.1 t_4.1) λt_5 =>
 R.bind (nApp s_1.2.2 t_5.1) λfound_1 =>
 K (t_4.2,t_5.2,found_1)
 else A s_1
@[irreducible] def zfJ (held_1:List D) (many_1:D):R (zhB) :=
  R.bind (nLr1 many_1) λt_1 =>
  R.whileN (zey) (λ(s_2:List D×List D×List D) =>
  .ok (s_2.2.2,s_2.1)) most (held_1,t_1,([]:List D))
abbrev zhC (ms:List M) (Q:M->En->Prop) (X:Xn->Prop):Prop:=∃ (held_1:List D) (many_1:D),ms=[(.lst held_1),(.fz many_1)]/\(zfJ held_1 many_1).post (λr=>Q (M.lst r.1) [some (.lst r.2),none]) X
abbrev zg0:Fn:=⟨2,[0],zhC⟩
theorem zme:zcS zhC:=λms Q Q' X X' hq hx ⟨held_1,many_1,e,h⟩=>⟨held_1,many_1,e,zaG h (λ_ h=>hq _ _ h) hx⟩
theorem zqY (ms:List M) (Q:M->En->Prop) (X:Xn->Prop) (h:zhC ms Q X):wFn 4 2 [0] zmd ms Q X:=by
 obtain ⟨held_1,many_1,rfl,h⟩:=h
 unfold zfJ at h
 refine zcF (e0:=[some (.lst held_1),some (.fz many_1),none,none]) rfl λE hrt hnx hx => ?_
 show (sSeq zjm (sSeq zgy (sSeq ze8 (zcV)))) _ _
 refine zaz (zaT (k_wlr1 (k_pk rfl (k_wp rfl (k_lr1 h λt_1 h => ?_)))))
 show (sSeq zgy (sSeq ze8 (zcV))) _ [some (.lst held_1),some (.fz many_1),some (.lst t_1),none]
 refine zaz (zaT (k_wN (k_an (zat (zdb rfl rfl (?_))))))
 show (sSeq ze8 (zcV)) _ [some (.lst held_1),some (.fz many_1),some (.lst t_1),some (.lst ([]:List D))]
 refine zaz (zsO (λ(s_1:List D×List D×List D) (j_1:Unit)=>[some (.lst s_1.1),some (.fz many_1),some (.lst s_1.2.1),some (.lst s_1.2.2)]) (λs_2 j_2 h => ?_) (λha => ?_) most (held_1,t_1,([]:List D)) () h)
 ·first | show zcV _ [some (.lst s_2.1),some (.fz many_1),some (.lst s_2.2.1),some (.lst s_2.2.2)] | ((with_reducible show zcV _ _); show zcV _ [some (.lst s_2.1),some (.fz many_1),some (.lst s_2.2.1),some (.lst s_2.2.2)])
  refine zod rfl (?_)
  exact hrt _ _ h
 ·intro s_1 j_1 N K hn h
  refine zbg (k_w2 (k_pk rfl (zad (k_wN (k_an (zat (zdb rfl rfl (k_wp rfl (k_wv (k_eq h λt_2 h=>j_tv (j_whl h (λh => ?_) (λh => ?_))))))))))))
  ·show zh3 _ [some (.lst s_1.1),some (.fz many_1),some (.lst s_1.2.1),some (.lst s_1.2.2)]
   refine zqA (zsL rfl rfl (k_ac (k_fz (zsL rfl rfl (k_ac (k_fz (zaI (k_ac (k_pk rfl (k_ac (k_fz (k_wN (k_ac (k_pk rfl (k_an (zcD rfl (zat (zdY h λt_3 h=>k_an (zcE rfl (za7 (zbh ⟨rfl,_,_,rfl,zaL h (λt_4 h=>k_an (zsM rfl rfl (zap (zat (k_popP h λt_5 h=>k_an (zsM rfl rfl (zap (zat (zvc h λfound_1 h => ?_))))))))) (λx z=>hx x _ z)⟩)))))))))))))))))))))
   exact hn (t_4.2,t_5.2,found_1) () h
  ·exact ha s_1 j_1 h
abbrev zfk:Type:=Bool
def zde (t_2:List (List Key×D)) (d_2:D) (s_1:List D) (K:(List D)->R (zfk)):R (zfk) :=
 R.bind (nUn2 d_2) λp_1 =>
 R.bind (nExt s_1 (.lst [p_1.1,p_1.2])) λmet_1 =>
 R.bind (nIn true p_1.1 (.dT t_2)) λt_9 =>
 R.bind (orB t_9 (R.bind (nIn true p_1.2 (.dT t_2)) λt_10=>orB t_10 (R.bind (nIx (.dT t_2) p_1.1) λt_11=>R.bind (nIx (.dT t_2) p_1.2) λt_12=>R.bind (zla t_12) λt_13=>nEq true t_11 t_13))) λc_3 =>
 if c_3=true then
 .ok false
 else
 K met_1
end VW
set_option maxHeartbeats 4000000
namespace VW
open PySem PySem.Spec PyProof.Rows L2 R
abbrev zmf:Type:=D
@[irreducible] def zjn (end_1:D) (numbers_1:D):R (zmf) :=
  R.bind (nIx end_1 (.int 0)) λt_1 =>
  R.bind (nEq false t_1 (.int (-1))) λt_2 =>
  if t_2=true then
  .ok end_1
  else
  R.bind (nIx end_1 (.int 0)) λt_3 =>
  R.bind (nIx numbers_1 t_3) λt_4 =>
  R.bind (nIx end_1 (.int 1)) λt_5 =>
  .ok (.tup [t_4,t_5])
abbrev zmg:Type:=Bool
def zjY (naming_1:D) (d_3:D) (s_1:List D):R (List D) :=
 R.bind (nUn2 d_3) λp_2 =>
 R.bind (zjn p_2.1 naming_1) λt_26 =>
 R.bind (zjn p_2.2 naming_1) λt_27 =>
 R.bind (zcs (.lst [t_26,t_27])) λt_28 =>
 R.bind (zcC (.lst t_28)) λt_29 =>
 R.bind (nApp s_1 t_29) λwires_1 =>
 .ok wires_1
@[irreducible] def zne (one_1:D) (other_1:D) (naming_1:D):R (zmg) :=
  R.bind (nIx one_1 (.int 0)) λt_1 =>
  R.bind (nIx other_1 (.int 0)) λt_2 =>
  R.bind (nEq true t_1 t_2) λt_3 =>
  R.bind (orB t_3 (R.bind (nIx one_1 (.int 3)) λt_4=>R.bind (nIx other_1 (.int 3)) λt_5=>R.bind (nEq true t_4 t_5) λt_6=>orB t_6 (R.bind (nIsi "tuple" naming_1) λt_7=>.ok ((!t_7))))) λc_2 =>
  if c_2=true then
  .ok false
  else
  R.bind (zbf naming_1) λds_1 =>
  R.bind (lcM (λd_1:D=>R.bind (zjl d_1) λt_8=>.ok ((.bl t_8))) ds_1) λxs_1 =>
  R.bind (nAll (.lst xs_1)) λt_9 =>
  R.bind (orB (!t_9) (R.bind (nLen naming_1) λt_10=>R.bind (nIx one_1 (.int 1)) λt_11=>R.bind (nLen t_11) λt_12=>nEq true t_10 t_12)) λc_3 =>
  if c_3=true then
  .ok false
  else
  R.bind (zcs naming_1) λt_14 =>
  R.bind (nIx other_1 (.int 1)) λt_15 =>
  R.bind (nLen t_15) λt_16 =>
  R.bind (nLr1 t_16) λt_17 =>
  R.bind (nEq true (.lst t_14) (.lst t_17)) λt_18 =>
  if t_18=true then
  .ok false
  else
  R.bind (zoY naming_1) λds_2 =>
  R.bind (lcM (λd_2:D=>R.bind (nUn2 d_2) λp_1=>R.bind (nIx one_1 (.int 1)) λt_19=>R.bind (nIx t_19 p_1.1) λt_20=>R.bind (nIx other_1 (.int 1)) λt_21=>R.bind (nIx t_21 p_1.2) λt_22=>R.bind (nEq false t_20 t_22) λt_23=>.ok ((.bl t_23))) ds_2) λxs_2 =>
  R.bind (nAll (.lst xs_2)) λt_24 =>
  if (!t_24)=true then
  .ok false
  else
  R.bind (nIx one_1 (.int 2)) λt_25 =>
  R.bind (zbf t_25) λds_3 =>
  R.bind (R.forS (zjY naming_1) ds_3 ([]:List D)) λs_2 =>
  R.bind (zcs (.lst s_2)) λt_30 =>
  R.bind (zcC (.lst t_30)) λt_31 =>
  R.bind (nIx other_1 (.int 2)) λt_32 =>
  R.bind (nEq false t_31 t_32) λt_33 =>
  .ok t_33
end VW
set_option maxHeartbeats 4000000
namespace VW
open PySem PySem.Spec PyProof.Rows L2 R
abbrev zo6:Type:=List D
def zmh (many_1:D) (d_1:D) (s_1:List D):R (List D) :=
 R.bind (nR1 many_1) λds_2 =>
 R.bind (lcF (λd_2:D=>R.bind (nIn true d_2 d_1) λt_1 =>
 if t_1=true then (R.bind (nAdd d_1 (.tup [d_2])) λt_2=>.ok ((some t_2.d)):R (Option D)) else .ok none) ds_2) λxs_1 =>
 R.bind (nExt s_1 (.lst xs_1)) λfound_1 =>
 .ok found_1
@[irreducible] def zqZ (rows_1:D) (many_1:D):R (zo6) :=
  R.bind (zbf rows_1) λds_1 =>
  R.bind (R.forS (zmh many_1) ds_1 ([]:List D)) λs_2 =>
  .ok s_2
end VW
set_option maxHeartbeats 4000000
set_option maxHeartbeats 4000000
set_option maxHeartbeats 4000000
set_option maxHeartbeats 4000000
set_option maxHeartbeats 4000000
namespace VW
open PySem PySem.Spec PyProof.Rows L2 R
abbrev ze9:Type:=D
def zjo (place_1:List (Key×D)) (theirs_1:D) (d_1:D) (s_1:Unit) (K:(Unit)->R (ze9)):R (ze9) :=
 R.bind (nUn2 d_1) λp_1 =>
 R.bind (nIx p_1.1 (.int 0)) λt_1 =>
 R.bind (nIn false t_1 (.dK place_1)) λt_2 =>
 R.bind (andB t_2 (R.bind (nIx p_1.2 (.int 0)) λt_3=>R.bind (nEq true t_3 (.int (-1))) λt_4=>andB t_4 (R.bind (nIx p_1.1 (.int 0)) λt_5=>R.bind (nEq true t_5 (.int (-1))) λt_6=>andB t_6 (R.bind (nIx p_1.2 (.int 0)) λt_7=>nIn true t_7 (.dK place_1))))) λc_3 =>
 if c_3=true then
 R.bind (nIx p_1.1 (.int 0)) λt_9 =>
 R.bind (nIx (.dK place_1) t_9) λt_10 =>
 R.bind (nIx p_1.1 (.int 1)) λt_11 =>
 R.bind (nIx theirs_1 (.tup [t_10,t_11])) λt_12 =>
 R.bind (nIx p_1.2 (.int 0)) λt_13 =>
 R.bind (nIx t_12 (.int 0)) λt_14 =>
 .ok (.tup [t_13,t_14])
 else
 K ()
@[irreducible] def zh4 (partners_1:D) (theirs_1:D) (place_1:List (Key×D)):R (ze9) :=
  R.bind (nO zqH partners_1) λds_1 =>
  R.forN (zjo place_1 theirs_1) (λ(s_2:Unit) =>
  .ok (.non)) ds_1 ()
abbrev zfK:Type:=Bool
def zjZ (naming_1:D) (theirs_1:D) (d_1:D) (s_1:Unit) (K:(Unit)->R (zfK)):R (zfK) :=
 R.bind (nUn2 d_1) λp_1 =>
 R.bind (nIx p_1.1 (.int 0)) λt_1 =>
 R.bind (nEq true t_1 (.int (-1))) λt_2 =>
 R.bind (andB t_2 (R.bind (nIx p_1.2 (.int 0)) λt_3=>nEq true t_3 (.int (-1)))) λc_1 =>
 if c_1=true then
 R.bind (nIx p_1.1 (.int 0)) λt_5 =>
 R.bind (nIx naming_1 t_5) λt_6 =>
 R.bind (nIx p_1.1 (.int 1)) λt_7 =>
 R.bind (nIx theirs_1 (.tup [t_6,t_7])) λt_8 =>
 R.bind (nIx p_1.2 (.int 0)) λt_9 =>
 R.bind (nIx naming_1 t_9) λt_10 =>
 R.bind (nIx p_1.2 (.int 1)) λt_11 =>
 R.bind (nEq true t_8 (.tup [t_10,t_11])) λt_12 =>
 if t_12=true then
 .ok false
 else
 K ()
 else
 K ()
@[irreducible] def znf (partners_1:D) (theirs_1:D) (naming_1:D):R (zfK) :=
  R.bind (nO zqH partners_1) λds_1 =>
  R.forN (zjZ naming_1 theirs_1) (λ(s_2:Unit) =>
  .ok true) ds_1 ()
abbrev zdw:Type:=D
def zgz (net_1:D) (left_1:D) (partners_1:D) (theirs_1:D) (s_1:(List (Key×D))×D) (K A:((List (Key×D))×D)->R (zdw)):R (zdw) :=
 R.bind (nIs true s_1.2 (.non)) λt_8 =>
 if t_8=true then
 R.bind (nUn2 s_1.2) λp_1 =>
 R.bind (nEq false p_1.2 (.int (-1))) λt_9 =>
 R.bind (orB t_9 (R.bind (nInV p_1.2 (.dK s_1.1)) λt_10=>orB t_10 (R.bind (nIx net_1 (.int 1)) λt_11=>R.bind (nIx t_11 p_1.2) λt_12=>R.bind (nIx left_1 (.int 1)) λt_13=>R.bind (nIx t_13 p_1.1) λt_14=>nEq true t_12 t_14))) λc_2 =>
 if c_2=true then
 .ok (.non)
 else
 R.bind (nStK s_1.1 p_1.1 p_1.2) λnaming_1 =>
 R.bind (zh4 partners_1 theirs_1 naming_1) λt_16 =>
 K (naming_1,t_16)
 else A s_1
@[irreducible] def zis (net_1:D) (left_1:D) (box_1:D) (partners_1:D) (theirs_1:D):R (zdw) :=
  R.bind (nIx net_1 (.int 1)) λt_1 =>
  R.bind (nIx t_1 box_1) λt_2 =>
  R.bind (nIx left_1 (.int 1)) λt_3 =>
  R.bind (nIx t_3 (.int 0)) λt_4 =>
  R.bind (nEq true t_2 t_4) λt_5 =>
  if t_5=true then
  .ok (.non)
  else
  R.bind (nD1 (.int 0) box_1) λt_6 =>
  R.bind (zh4 partners_1 theirs_1 t_6) λt_7 =>
  R.whileN (zgz net_1 left_1 partners_1 theirs_1) (λ(s_2:(List (Key×D))×D) =>
  R.bind (znf partners_1 theirs_1 (.dK s_2.1)) λt_17 =>
  if (!t_17)=true then
  .ok (.non)
  else
  .ok (.dK s_2.1)) most (t_6,t_7)
abbrev zng:Type:=D
@[irreducible] def zkr (net_1:D) (left_1:D) (box_1:D) (partners_1:D) (theirs_1:D):R (zng) :=
  R.bind (zis net_1 left_1 box_1 partners_1 theirs_1) λt_1 =>
  R.bind (nIs false t_1 (.non)) λt_2 =>
  if t_2=true then
  .ok (.non)
  else
  R.bind (nIx left_1 (.int 1)) λt_3 =>
  R.bind (nLen t_3) λt_4 =>
  R.bind (nR1 t_4) λds_1 =>
  R.bind (lcM (λd_1:D=>nIx t_1 d_1) ds_1) λxs_1 =>
  R.bind (zcC (.lst xs_1)) λt_6 =>
  .ok t_6
abbrev znh:Type:=D
@[irreducible] def zks (net_1:D) (left_1:D) (box_1:D):R (znh) :=
  R.bind (nIx left_1 (.int 2)) λt_1 =>
  R.bind (zbW t_1) λt_2 =>
  R.bind (nIx net_1 (.int 2)) λt_3 =>
  R.bind (zbW t_3) λt_4 =>
  R.bind (zkr net_1 left_1 box_1 (.dT t_2) (.dT t_4)) λt_5 =>
  .ok t_5
abbrev zmi:Type:=List D
@[irreducible] def zni (net_1:D) (left_1:D):R (zmi) :=
  R.bind (nIx left_1 (.int 2)) λt_1 =>
  R.bind (zbW t_1) λt_2 =>
  R.bind (nIx net_1 (.int 2)) λt_3 =>
  R.bind (zbW t_3) λt_4 =>
  R.bind (nIx net_1 (.int 1)) λt_5 =>
  R.bind (nLen t_5) λt_6 =>
  R.bind (nR1 t_6) λds_1 =>
  R.bind (lcM (λd_1:D=>zkr net_1 left_1 d_1 (.dT t_2) (.dT t_4)) ds_1) λxs_1 =>
  R.bind (lcF (λd_2:D=>R.bind (nIs true d_2 (.non)) λt_8 =>
  if t_8=true then (.ok ((some d_2)):R (Option D)) else .ok none) xs_1) λxs_2 =>
  .ok xs_2
abbrev zfL:Type:=Bool
def zj0 (row_1:D) (net_1:D) (d_1:D) (s_1:Unit) (K:(Unit)->R (zfL)):R (zfL) :=
 R.bind (nUn2 d_1) λp_1 =>
 R.bind (nIx p_1.1 (.int 0)) λt_2 =>
 R.bind (nOrd .ge t_2 (.int 0)) λt_3 =>
 R.bind (andB t_3 (R.bind (nIx p_1.2 (.int 0)) λt_4=>R.bind (nLen row_1) λt_5=>nOrd .lt t_4 t_5)) λc_1 =>
 if c_1=true then
 R.bind (nIx p_1.1 (.int 0)) λt_7 =>
 R.bind (nIx row_1 t_7) λt_8 =>
 R.bind (nIx p_1.1 (.int 1)) λt_9 =>
 R.bind (nIx p_1.2 (.int 0)) λt_10 =>
 R.bind (nIx row_1 t_10) λt_11 =>
 R.bind (nIx p_1.2 (.int 1)) λt_12 =>
 R.bind (zcs (.lst [(.tup [t_8,t_9]),(.tup [t_11,t_12])])) λt_13 =>
 R.bind (zcC (.lst t_13)) λt_14 =>
 R.bind (nIx net_1 (.int 2)) λt_15 =>
 R.bind (nIn true t_14 t_15) λt_16 =>
 if t_16=true then
 .ok false
 else
 K ()
 else
 K ()
@[irreducible] def znj (net_1:D) (left_1:D) (row_1:D):R (zfL) :=
  R.bind (nIx left_1 (.int 2)) λt_1 =>
  R.bind (zbf t_1) λds_1 =>
  R.forN (zj0 row_1 net_1) (λ(s_2:Unit) =>
  .ok true) ds_1 ()
abbrev znk:Type:=List D
def zlb (net_1:D) (left_1:D) (d_1:D) (s_1:List D):R (List D) :=
 R.bind (nIx net_1 (.int 1)) λt_2 =>
 R.bind (nLen t_2) λt_3 =>
 R.bind (zqZ (.lst s_1) t_3) λt_4 =>
 R.bind (lcF (λd_2:D=>R.bind (nIx net_1 (.int 1)) λt_5 =>
 R.bind (nNeg (.int 1)) λt_6 =>
 R.bind (nIx d_2 t_6) λt_7 =>
 R.bind (nIx t_5 t_7) λt_8 =>
 R.bind (nEq false t_8 d_1) λt_9 =>
 if t_9=true then (.ok ((some d_2)):R (Option D)) else .ok none) t_4) λxs_1 =>
 R.bind (lcF (λd_3:D=>R.bind (znj net_1 left_1 d_3) λt_10 =>
 if t_10=true then (.ok ((some d_3)):R (Option D)) else .ok none) xs_1) λxs_2 =>
 .ok xs_2
@[irreducible] def zo7 (net_1:D) (left_1:D):R (znk) :=
  R.bind (nIx left_1 (.int 1)) λt_1 =>
  R.bind (zbf t_1) λds_1 =>
  R.bind (R.forS (zlb net_1 left_1) ds_1 [.tup []]) λs_2 =>
  R.bind (zcs (.lst s_2)) λt_11 =>
  .ok t_11
end VW
set_option maxHeartbeats 4000000
set_option maxHeartbeats 4000000
set_option maxHeartbeats 4000000
namespace VW
open PySem PySem.Spec PyProof.Rows L2 R
abbrev znl:Type:=D
@[irreducible] def zo8 (partners_1:D):R (znl) :=
  R.bind (nO zqH partners_1) λds_1 =>
  R.bind (lcF (λd_1:D=>R.bind (nUn2 d_1) λp_1 =>
  R.bind (nOrd .lt p_1.1 p_1.2) λt_1 =>
  if t_1=true then (.ok ((some (.tup [p_1.1,p_1.2]))):R (Option D)) else .ok none) ds_1) λxs_1 =>
  R.bind (zcs (.lst xs_1)) λt_2 =>
  R.bind (zcC (.lst t_2)) λt_3 =>
  .ok t_3
abbrev znm:Type:=Bool
@[irreducible] def zo9 (net_1:D) (left_1:D) (place_1:D):R (znm) :=
  R.bind (nIsi "tuple" place_1) λt_1 =>
  R.bind (orB (!t_1) (R.bind (nLen place_1) λt_2=>R.bind (nIx left_1 (.int 1)) λt_3=>R.bind (nLen t_3) λt_4=>nEq true t_2 t_4)) λc_1 =>
  if c_1=true then
  .ok false
  else
  R.bind (zbf place_1) λds_1 =>
  R.bind (lcM (λd_1:D=>R.bind (zjl d_1) λt_6=>.ok ((.bl t_6))) ds_1) λxs_1 =>
  R.bind (nAll (.lst xs_1)) λt_7 =>
  R.bind (orB (!t_7) (R.bind (nIx place_1 (.int 0)) λt_8=>R.bind (nOrd .le (.int 0) t_8) λt_9=>R.bind (andB t_9 (R.bind (nIx net_1 (.int 1)) λt_10=>R.bind (nLen t_10) λt_11=>nOrd .lt t_8 t_11)) λc_2=>.ok ((!c_2)))) λc_3 =>
  if c_3=true then
  .ok false
  else
  R.bind (nIx place_1 (.int 0)) λt_13 =>
  R.bind (zks net_1 left_1 t_13) λt_14 =>
  R.bind (nEq false t_14 place_1) λt_15 =>
  .ok t_15
abbrev zj1:Type:=List D
@[irreducible] def zlc (net_1:D) (place_1:D):R (zj1) :=
  R.bind (nIx net_1 (.int 1)) λt_1 =>
  R.bind (nLen t_1) λt_2 =>
  R.bind (nR1 t_2) λds_1 =>
  R.bind (lcF (λd_1:D=>R.bind (nIn true d_1 place_1) λt_3 =>
  if t_3=true then (.ok ((some d_1)):R (Option D)) else .ok none) ds_1) λxs_1 =>
  .ok xs_1
end VW
set_option maxHeartbeats 4000000
set_option maxHeartbeats 4000000
namespace VW
open PySem PySem.Spec PyProof.Rows L2 R
abbrev zmj:Type:=D
@[irreducible] def znn (counts_1:D):R (zmj) :=
  R.bind (nO itemsK counts_1) λds_1 =>
  R.bind (lcF (λd_1:D=>R.bind (nUn2 d_1) λp_1 =>
  R.bind (nOrd .gt p_1.2 (.int 0)) λt_1 =>
  if t_1=true then (.ok ((some (.tup [p_1.1,p_1.2]))):R (Option D)) else .ok none) ds_1) λxs_1 =>
  R.bind (zcs (.lst xs_1)) λt_2 =>
  R.bind (zcC (.lst t_2)) λt_3 =>
  .ok t_3
end VW
set_option maxHeartbeats 4000000
namespace VW
open PySem PySem.Spec PyProof.Rows L2 R
abbrev seam (C dx:Addr) (u:Nat->V) (pl out ins po oo nu st:D) (met:List (Key×D)):M:=.ob C dx [("place",u 0,.fz pl),("outside",u 1,.fz out),("inside",u 2,.fz ins),("port_of",u 3,.fz po),("outer_of",u 4,.fz oo),("numbers",u 5,.fz nu),("stay",u 6,.fz st),("met",u 7,.dK met)]
def w_on_1:WS:=sIf (tVal (w2 (opEq false) (oVal (w2 opIx (oPk 1) (oVal (wC (.int 0))))) (oVal (wC (.int (-1))))))
 (sRet (oPk 1))
 (sNx)
def w_on_2 (C:Addr):WS:=sRet (oVal (wN zfo (zag (oFz (w2 opIx (oFld C 0 "numbers") (oVal (w2 opIx (oPk 1) (oVal (wC (.int 0))))))) (zag (oFz (w2 opIx (oPk 1) (oVal (wC (.int 1))))) (aNil)))))
def w_on (C:Addr):WS:=sSeq w_on_1 (w_on_2 C)
@[irreducible] def n_on (nu end_1:D):R D :=
  R.bind (nIx end_1 (.int 0)) λt_1 =>
  R.bind (nEq false t_1 (.int (-1))) λt_2 =>
  if t_2=true then
  .ok end_1
  else
  R.bind (nIx end_1 (.int 0)) λt_3 =>
  R.bind (nIx nu t_3) λt_4 =>
  R.bind (nIx end_1 (.int 1)) λt_5 =>
  .ok (.tup [t_4,t_5])
end VW
set_option maxHeartbeats 4000000
namespace VW
open PySem PySem.Spec PyProof.Rows L2 R
@[irreducible] def n_inn (st end_1:D):R D :=
  R.bind (nLen st) λt_1 =>
  R.bind (nIx end_1 (.int 0)) λt_2 =>
  R.bind (nAdd t_1 t_2) λt_3 =>
  R.bind (nIx end_1 (.int 1)) λt_4 =>
  .ok (.tup [t_3.d,t_4])
abbrev NS:Type:=List (Key×D)->D->D->D->D->D->D->D->D->R (D×List (Key×D))
def n_fo (nv:NS):NS:=λmet pl out ins po oo nu st end_1 =>
 R.bind (nIx out end_1) λother_1 =>
 R.bind (nIn true other_1 oo) λt_1 =>
 if t_1=true then
 R.bind (n_on nu other_1) λt_2 =>
 .ok (t_2,met)
 else
 R.bind (nIx oo other_1) λt_3 =>
 R.bind (nv met pl out ins po oo nu st t_3) λt_4 =>
 .ok t_4
end VW
set_option maxHeartbeats 4000000
namespace VW
open PySem PySem.Spec PyProof.Rows L2 R
def n_ovB (nf:NS) (met:List (Key×D)) (pl out ins po oo nu st other_1:D):R (D×List (Key×D)) :=
 R.bind (nIx other_1 (.int 0)) λt_1 =>
 R.bind (nEq true t_1 (.int (-1))) λt_2 =>
 if t_2=true then
 R.bind (n_inn st other_1) λt_3 =>
 .ok (t_3,met)
 else
 R.bind (nIx other_1 (.int 1)) λt_4 =>
 R.bind (nStK met t_4 (.bl true)) λmet_2 =>
 R.bind (nIx other_1 (.int 1)) λt_5 =>
 R.bind (nIx po t_5) λt_6 =>
 R.bind (nf met_2 pl out ins po oo nu st t_6) λt_7 =>
 .ok t_7
def n_ov (nf:NS):NS:=λmet pl out ins po oo nu st k_1 =>
 R.bind (nStK met k_1 (.bl true)) λmet_1 =>
 R.bind (nIx ins (.tup [.int (-1),k_1])) λother_1 =>
 n_ovB nf met_1 pl out ins po oo nu st other_1
def n_fi (nf:NS):NS:=λmet pl out ins po oo nu st end_1 =>
 R.bind (nIx ins end_1) λother_1 =>
 n_ovB nf met pl out ins po oo nu st other_1
def zq0:Nat->NS
 | 0=>λ_ _ _ _ _ _ _ _ _=>.no
 | n+1=>n_fo (n_ov (zq0 n))
end VW
set_option maxHeartbeats 4000000
namespace VW
open PySem PySem.Spec PyProof.Rows L2 R
def n_rd_b {β:Type} (out ins po oo:D) (s:D×List (Key×D)) (KK:D×List (Key×D)->R β):R β :=
 R.bind (nStK s.2 s.1 (.bl true)) λmet_1 =>
 R.bind (nIx ins (.tup [.int (-1),s.1])) λt_1 =>
 R.bind (nIx t_1 (.int 1)) λthere_1 =>
 R.bind (nStK met_1 there_1 (.bl true)) λmet_2 =>
 R.bind (nIx po there_1) λt_2 =>
 R.bind (nIx out t_2) λt_3 =>
 R.bind (nIx oo t_3) λhere_1 =>
 KK (here_1,met_2)
def n_rd (met:List (Key×D)) (pl out ins po oo nu st k_1:D):R (List (Key×D)) :=
 R.whileN (λs KK A=>R.bind (nIn true s.1 (.dK s.2)) λt_1=>if t_1=true then n_rd_b out ins po oo s KK else A s) (λs=>.ok s.2) most (k_1,met)
end VW
set_option maxHeartbeats 4000000
namespace VW
open PySem PySem.Spec PyProof.Rows L2 R
abbrev JS:Type:=List (List Key×D)×List (Key×D)
def zvJ (nf:NS) (pl out ins po oo nu st:D) (d_1:D) (s_1:JS):R JS :=
 R.bind (nIx d_1 (.int 0)) λt_1 =>
 R.bind (nIn true t_1 pl) λt_2 =>
 if t_2=true then
 R.bind (nf s_1.2 pl out ins po oo nu st d_1) λt_3 =>
 R.bind (n_on nu d_1) λt_4 =>
 R.bind (nStT s_1.1 t_4 t_3.1) λfound_1 =>
 .ok (found_1,t_3.2)
 else
 .ok s_1
def zvK (ni:NS) (pl out ins po oo nu st:D) (d_1:D) (s_1:JS):R JS :=
 R.bind (nIx d_1 (.int 0)) λt_1 =>
 R.bind (nEq true t_1 (.int (-1))) λt_2 =>
 if t_2=true then
 R.bind (ni s_1.2 pl out ins po oo nu st d_1) λt_3 =>
 R.bind (n_inn st d_1) λt_4 =>
 R.bind (nStT s_1.1 t_4 t_3.1) λfound_1 =>
 .ok (found_1,t_3.2)
 else
 .ok s_1
def n_jd (nf ni:NS) (met:List (Key×D)) (pl out ins po oo nu st:D):R JS :=
 R.bind (nO keysD out) λds_1 =>
 R.bind (R.forS (zvJ nf pl out ins po oo nu st) ds_1 ([],met)) λs_1 =>
 R.bind (nO keysD ins) λds_2 =>
 R.bind (R.forS (zvK ni pl out ins po oo nu st) ds_2 s_1) λs_2 =>
 .ok s_2
end VW
set_option maxHeartbeats 4000000
namespace VW
open PySem PySem.Spec PyProof.Rows L2 R
abbrev IS:Type:=List (List Key×D)×List (List Key×D)×List (Key×D)×List (List Key×D)×List (Key×D)×List D
abbrev PS2:Type:=List (Key×D)×List (List Key×D)
def zvL (place_1:D) (mine_1:List (List Key×D)) (d_1:D) (s_1:PS2):R PS2 :=
 R.bind (nIx (.dT mine_1) (.tup [.int (-1),d_1])) λend_1 =>
 R.bind (nIx end_1 (.int 0)) λt_1 =>
 R.bind (nIx place_1 t_1) λt_2 =>
 R.bind (nIx end_1 (.int 1)) λt_3 =>
 R.bind (nStK s_1.1 d_1 (.tup [t_2,t_3])) λpo_1 =>
 R.bind (nStT s_1.2 (.tup [t_2,t_3]) d_1) λoo_1 =>
 .ok (po_1,oo_1)
def zvM (d_1:D) (s_1:List (Key×D)):R (List (Key×D)) :=
 R.bind (nUn2 d_1) λp_1 =>
 R.bind (nStK s_1 p_1.2 p_1.1) λnu_1 =>
 .ok nu_1
@[irreducible] def n_si (net_1 rule_1 place_1:D):R IS :=
  R.bind (nUn2 rule_1) λp_1 =>
  R.bind (nIx net_1 (.int 2)) λt_1 =>
  R.bind (zbW t_1) λout_1 =>
  R.bind (nIx p_1.2 (.int 2)) λt_2 =>
  R.bind (zbW t_2) λins_1 =>
  R.bind (nIx p_1.1 (.int 2)) λt_3 =>
  R.bind (zbW t_3) λmine_1 =>
  R.bind (nIx p_1.1 (.int 0)) λt_4 =>
  R.bind (nLen t_4) λt_5 =>
  R.bind (nR1 t_5) λds_1 =>
  R.bind (R.forS (zvL place_1 mine_1) ds_1 (([],[]):PS2)) λs_1 =>
  R.bind (zlc net_1 place_1) λst_1 =>
  R.bind (R.forS zvM (enD st_1) []) λnu_1 =>
  .ok (out_1,ins_1,s_1.1,s_1.2,nu_1,st_1)
end VW
set_option maxHeartbeats 4000000
namespace VW
open PySem PySem.Spec PyProof.Rows L2 R
def zq1 (d_1:D) (s_1:List (Key×D)):R (List (Key×D)) :=
 R.bind (nUn2 d_1) λp_1 =>
 R.bind (nGet2 (.dK s_1) p_1.1 (.int 0)) λt_9 =>
 R.bind (nAdd t_9 p_1.2) λt_10 =>
 R.bind (nStK s_1 p_1.1 t_10.d) λcounts_1 =>
 .ok counts_1
abbrev CS:Type:=List (Key×D)×List (Key×D)
def zq2 (place_1:D) (r_1:IS) (d_2:D) (s_3:CS):R CS :=
 R.bind (nUn2 d_2) λp_2 =>
 R.bind (nIn true p_2.1 (.dK s_3.2)) λt_13 =>
 if t_13=true then
 R.bind (nIx p_2.2 (.int 0)) λt_14 =>
 R.bind (nGet2 (.dK s_3.1) t_14 (.int 0)) λt_15 =>
 R.bind (nAdd t_15 (.int 1)) λt_16 =>
 R.bind (nIx p_2.2 (.int 0)) λt_17 =>
 R.bind (nStK s_3.1 t_17 t_16.d) λcounts_2 =>
 R.bind (n_rd s_3.2 place_1 (.dT r_1.1) (.dT r_1.2.1) (.dK r_1.2.2.1) (.dT r_1.2.2.2.1) (.dK r_1.2.2.2.2.1) (.lst r_1.2.2.2.2.2) p_2.1) λmet_1 =>
 .ok (counts_2,met_1)
 else
 .ok s_3
@[irreducible] def fuelS:Nat:=20
@[irreducible] def n_laid (net_1:D) (rule_1:D) (place_1:D):R D :=
  R.bind (nIx rule_1 (.int 0)) λt_1 =>
  R.bind (zo9 net_1 t_1 place_1) λt_2 =>
  if (!t_2)=true then
  .ex ⟨"NoPlace",none⟩
  else
  R.bind (n_si net_1 rule_1 place_1) λr_1 =>
  R.bind (n_jd (zq0 fuelS) (n_fi (zq0 fuelS)) [] place_1 (.dT r_1.1) (.dT r_1.2.1) (.dK r_1.2.2.1) (.dT r_1.2.2.2.1) (.dK r_1.2.2.2.2.1) (.lst r_1.2.2.2.2.2)) λj_1 =>
  R.bind (zo8 (.dT j_1.1)) λt_4 =>
  R.bind (nIx net_1 (.int 3)) λt_5 =>
  R.bind (nDict t_5) λt_6 =>
  R.bind (nIx rule_1 (.int 1)) λt_7 =>
  R.bind (nIx t_7 (.int 3)) λt_8 =>
  R.bind (zbf t_8) λds_1 =>
  R.bind (R.forS (zq1) ds_1 t_6) λs_2 =>
  R.bind (nIx rule_1 (.int 0)) λt_11 =>
  R.bind (nIx t_11 (.int 0)) λt_12 =>
  R.bind (zoY t_12) λds_2 =>
  R.bind (R.forS (zq2 place_1 r_1) ds_2 ((s_2,j_1.2):CS)) λs_4 =>
  R.bind (lcM (λd_3:D=>R.bind (nIx net_1 (.int 1)) λt_19=>nIx t_19 d_3) r_1.2.2.2.2.2) λxs_1 =>
  R.bind (zcC (.lst xs_1)) λt_21 =>
  R.bind (nIx rule_1 (.int 1)) λt_22 =>
  R.bind (nIx t_22 (.int 1)) λt_23 =>
  R.bind (nAdd t_21 t_23) λt_24 =>
  R.bind (nIx net_1 (.int 0)) λt_25 =>
  R.bind (znn (.dK s_4.1)) λt_26 =>
  .ok (.tup [t_25,t_24.d,t_4,t_26])
theorem zol {K:PySem.W.Frag} {m qual:Str} {st:Stmt} {f:Addr} {fd:FuncData} (F:FunD K m qual (defArgs st) (defBody st) (defScope st) [] [] f fd):Fun K m qual st f fd:=by
 obtain ⟨oc,od,dV,kV,doc,pm,an,cdv,ct,osl,rfl,lk,hcd,hD,hK⟩:=F.ex
 rcases hD with ⟨_,rfl⟩ | ⟨e,_⟩
 ·exact ⟨⟨oc,od,kV,doc,pm,an,cdv,ct,osl,rfl,lk,hcd⟩,F.kp⟩
 ·exact absurd rfl e
end VW
set_option maxHeartbeats 4000000
set_option maxHeartbeats 4000000
set_option maxHeartbeats 4000000
set_option maxHeartbeats 4000000
set_option maxHeartbeats 4000000
set_option maxHeartbeats 4000000
set_option maxHeartbeats 4000000
set_option maxHeartbeats 4000000
set_option maxHeartbeats 4000000
set_option maxHeartbeats 4000000
set_option maxHeartbeats 4000000
set_option maxHeartbeats 4000000
set_option maxHeartbeats 4000000
set_option maxHeartbeats 4000000
set_option maxHeartbeats 4000000
set_option maxHeartbeats 4000000
set_option maxHeartbeats 4000000
set_option maxHeartbeats 4000000
set_option maxHeartbeats 4000000
set_option maxHeartbeats 4000000
set_option maxHeartbeats 4000000
set_option maxHeartbeats 4000000
set_option maxHeartbeats 4000000
namespace VW
open PySem PySem.Spec PyProof.Rows L2 R
def zgd:WS:=sIf (tOrW (tVal (w2 (opIn true) (oVal (wSl opSl (oPk 0) (pNo) (pInt (wC (.int 1))))) (oVal (wC (.tup [.str "+",.str "-"]))))) (tOrW (tVal (w2 (opEq false) (oPk 0) (oVal (wC (.str ""))))) (zel (tTru (oVal (za0 (zsY zdK) (zag (oFz (wSl opSl (oPk 0) (pInt (wC (.int 1))) (pNo))) (aNil))))))))
 (zcz "NoText" "at" (wC (.int 0)))
 (sNx)
def zcG:WS:=sRet (oVal (wN zfo (zag (oFz (wSl opSl (oPk 0) (pInt (wC (.int 1))) (pNo))) (zag (oFz (wSl opSl (oPk 0) (pNo) (pInt (wC (.int 1))))) (aNil)))))
def zh5:WS:=sSeq (zgd) (zcG)
abbrev zld:Type:=D
@[irreducible] def zcj (word_1:D):R (zld) :=
  R.bind (nInt (.int 1)) λi_1 =>
  R.bind (nSl word_1 none (some i_1)) λt_1 =>
  R.bind (nIn true t_1.d (.tup [.str "+",.str "-"])) λt_2 =>
  R.bind (orB t_2 (R.bind (nEq false word_1 (.str "")) λt_3=>orB t_3 (R.bind (nInt (.int 1)) λi_2=>R.bind (nSl word_1 (some i_2) none) λt_4=>R.bind (R.calm (zeO t_4.d)) λt_5=>.ok ((!t_5))))) λc_2 =>
  if c_2=true then
  R.bind (nPl (.int 0)) λ_=>.ex ⟨"NoText",some ("at",(.int 0))⟩
  else
  R.bind (nInt (.int 1)) λi_3 =>
  R.bind (nSl word_1 (some i_3) none) λt_6 =>
  R.bind (nInt (.int 1)) λi_4 =>
  R.bind (nSl word_1 none (some i_4)) λt_7 =>
  .ok (.tup [t_6.d,t_7.d])
abbrev zfa (ms:List M) (Q:M->En->Prop) (X:Xn->Prop):Prop:=∃ (word_1:D),ms=[(.fz word_1)]/\(zcj word_1).post (λr=>Q (M.fz r) [none]) X
abbrev zez:Fn:=⟨1,[],zfa⟩
theorem zjp:zcS zfa:=λms Q Q' X X' hq hx ⟨word_1,e,h⟩=>⟨word_1,e,zaG h (λ_ h=>hq _ _ h) hx⟩
theorem zmk (ms:List M) (Q:M->En->Prop) (X:Xn->Prop) (h:zfa ms Q X):wFn 1 1 [] zh5 ms Q X:=by
 obtain ⟨word_1,rfl,h⟩:=h
 unfold zcj at h
 refine zcF (e0:=[some (.fz word_1)]) rfl λE hrt hnx hx => ?_
 show (sSeq zgd (zcG)) _ _
 refine zaz @(zdQ @(zfv @(zbg @(k_w2 @(zad @(zcq @(k_pk rfl @(zcr @(zbn @(k_c @(zbo h λi_1 h=>k_wp rfl @(k_sl h λt_1 h=>zad @(k_c @(k_wv @(k_wv @(k_in h λt_2 h=>j_tv @(zfw (λ(v:Bool)=>v) (λ(v:Bool)=>[some (.fz word_1)]) h (λJ0 h=>J0 true h) (λJ0 h=>zfv @(zbg @(k_w2 @(k_pk rfl @(zad @(k_c @(k_wp rfl @(k_wv @(k_eq (asc h) λt_3 h=>j_tv @(zfw (λ(v:Bool)=>v) (λ(v:Bool)=>[some (.fz word_1)]) h (λJ1 h=>J1 true h) (λJ1 h=>zc1 @(zea @(zad @(zaI (fn:=zsY zdK) @(k_ac @(k_fz @(zcq @(k_pk rfl @(zbn @(k_c @(zbo (asc h) λi_2 h=>zcr @(k_wp rfl @(k_sl (asc h) λt_4 h=>k_an @(za7 @(zbh ⟨rfl,_,rfl,zvI (asc h) (λt_5 h=>k_wv @(zec (J1 (!t_5) h))) ⟩))))))))))))))) (λc_1 h=>J0 c_1 h))))))))))) (λc_2 h=>zeb h (λh => ?_) (λh => ?_)))))))))))))))))))
 ·refine zqL @(k_c @(k_pl h λh=>zqM h ((λx z=>hx x _ z) _)))
 ·refine k_nx ?_
  try with_reducible show zcG _ _
  show zcG _ [some (.fz word_1)]
  refine za2 @(k_wN @(k_ac @(k_fz @(zcq @(k_pk rfl @(zbn @(k_c @(zbo h λi_3 h=>zcr @(k_wp rfl @(k_sl h λt_6 h=>k_ac @(k_fz @(zcq @(k_pk rfl @(zcr @(zbn @(k_c @(zbo h λi_4 h=>k_wp rfl @(k_sl h λt_7 h=>k_an @(zap @(zap @(zat @(zgS rfl rfl (hrt _ _ h)))))))))))))))))))))))
def zjq:WS:=sRet (oVal (wMt "str" zf9 (oVal (wC (.str " "))) (zag (oVal (w2 zaS (oVal (wN zcd (zag (oFz (wVar 0)) (zag (oVal (wC (.str "="))) (aNil))))) (oVal (wLc (iSeq (wVar 1)) (.nm 2) (zdp) (w2 zaS (oVal (w2 opIx (oPk 2) (oVal (wC (.int 1))))) (oVal (w2 opIx (oPk 2) (oVal (wC (.int 0)))))) [2])))) (aNil))))
abbrev zml:Type:=D
@[irreducible] def zeg (kind_1:D) (ports_1:D):R (zml) :=
  R.bind (zbf ports_1) λds_1 =>
  R.bind (lcM (λd_1:D=>R.bind (nIx d_1 (.int 1)) λt_1=>R.bind (nIx d_1 (.int 0)) λt_2=>R.bind (nAdd t_1 t_2) λt_3=>.ok t_3.d) ds_1) λxs_1 =>
  R.bind (zcf (.lst [kind_1,(.str "=")]) (.lst xs_1)) λt_4 =>
  R.bind (zhp (.str " ") (.lst t_4)) λt_5 =>
  .ok t_5
abbrev zfM (ms:List M) (Q:M->En->Prop) (X:Xn->Prop):Prop:=∃ (kind_1:D) (ports_1:D),ms=[(.fz kind_1),(.fz ports_1)]/\(zeg kind_1 ports_1).post (λr=>Q (M.fz r) [none,none]) X
abbrev zfb:Fn:=⟨2,[],zfM⟩
theorem zj2:zcS zfM:=λms Q Q' X X' hq hx ⟨kind_1,ports_1,e,h⟩=>⟨kind_1,ports_1,e,zaG h (λ_ h=>hq _ _ h) hx⟩
theorem zno (ms:List M) (Q:M->En->Prop) (X:Xn->Prop) (h:zfM ms Q X):wFn 3 2 [] zjq ms Q X:=by
 obtain ⟨kind_1,ports_1,rfl,h⟩:=h
 unfold zeg at h
 refine zcF (e0:=[some (.fz kind_1),some (.fz ports_1),none]) rfl λE hrt hnx hx => ?_
 refine za2 @(zin @(zad @(k_c (⟨k_wv (rfl),k_ac @(zad @(k_w2 @(zad @(zjT (λQ hq=>k_wN @(k_ac @(k_fz @(zaC rfl @(k_ac @(zad @(k_c @(k_an @(zap @(zap @(zat @(zdb rfl rfl hq)))))))))))) @(zad @(k_lc @(zdJ @(zaC rfl @(zda h λds_1 h=>zi8 h (λd_1 S KK hk h=>g_nm @(k_w2 @(zad @(k_w2 @(k_pk rfl @(zad @(k_c @(k_wp rfl @(k_wv @(k_ix h λt_1 h=>zad @(k_w2 @(k_pk rfl @(zad @(k_c @(k_wp rfl @(k_wv @(k_ix h λt_2 h=>k_wv @(k_wv @(zbJ h λt_3 h=>hk _ _ rfl h))))))))))))))))))) λxs_1 h=>k_wv @(k_wv @(zdk h λt_4 h=>k_an @(k_wv @(zap @(zat @(zi2 h λt_5 h=>hrt _ _ h)))))))))))))))⟩))))
def zg1:WS:=sSet 2 (wMt "str" zgq (oPk 0) (zag (oVal (wC (.str " "))) (aNil)))
def zfc:WS:=sIf (tOrW (tVal (w2 (zen .lt) (oVal (wN zdr (zag (oPk 2) (aNil)))) (oVal (wC (.int 3))))) (tVal (w2 (opEq true) (oVal (w2 opIx (oPk 2) (oVal (wC (.int 1))))) (oVal (wC (.str "="))))))
 (zcz "NoText" "at" (wVar 1))
 (sNx)
def zd1:WS:=zvG "NoText" (sSet 3 (wN zfo (zag (oFz (w2 opIx (oPk 2) (oVal (wC (.int 0))))) (zag (oFz (wN ze1 (zag (oVal (wLcX (iSeq (wSl opSl (oPk 2) (pInt (wC (.int 2))) (pNo))) (.nm 4) (zdp) (za0 zez (zag (oFz (wVar 4)) (aNil))) [4])) (aNil)))) (aNil)))))
 (zcz "NoText" "at" (wVar 1))
def zdf:WS:=sIf (zel (tTru (oVal (za0 zct (zag (oFz (wVar 3)) (aNil))))))
 (zcz "NoText" "at" (wVar 1))
 (sNx)
def zbE:WS:=sRet (oPk 3)
def zjr:WS:=sSeq (zg1) (sSeq (zfc) (sSeq (zd1) (sSeq (zdf) (zbE))))
abbrev zmm:Type:=D
@[irreducible] def zbX (text_1:D) (at_1:D):R (zmm) :=
  R.bind (nTy "str" text_1) λu_1 =>
  R.bind (zgb text_1 (.str " ")) λt_1 =>
  R.bind (nLen (.lst t_1)) λt_2 =>
  R.bind (nOrd .lt t_2 (.int 3)) λt_3 =>
  R.bind (orB t_3 (R.bind (nIx (.lst t_1) (.int 1)) λt_4=>nEq true t_4 (.str "="))) λc_1 =>
  if c_1=true then
  R.bind (nPl at_1) λ_=>.ex ⟨"NoText",some ("at",at_1)⟩
  else
  R.bind (nIx (.lst t_1) (.int 0)) λt_6 =>
  R.bind (nInt (.int 2)) λi_1 =>
  R.bind (nSl (.lst t_1) (some i_1) none) λt_7 =>
  R.bind (zbf t_7.d) λds_1 =>
  R.tryC (lcMX (λd_1:D=>zcj d_1) ds_1) (λxs_1 =>
  R.bind (zcC (.lst xs_1)) λt_9 =>
  R.bind (zdd (.tup [t_6,t_9])) λt_10 =>
  if (!t_10)=true then
  R.bind (nPl at_1) λ_=>.ex ⟨"NoText",some ("at",at_1)⟩
  else
  .ok (.tup [t_6,t_9])) (λx=>if subX x.cls "NoText" = true then (R.bind (nPl at_1) λ_=>.ex ⟨"NoText",some ("at",at_1)⟩) else .ex x)
abbrev zfN (ms:List M) (Q:M->En->Prop) (X:Xn->Prop):Prop:=∃ (text_1:D) (at_1:D),ms=[(.fz text_1),(.fz at_1)]/\(zbX text_1 at_1).post (λr=>Q (M.fz r) [none,none]) X
abbrev zfd:Fn:=⟨2,[],zfN⟩
theorem zj3:zcS zfN:=λms Q Q' X X' hq hx ⟨text_1,at_1,e,h⟩=>⟨text_1,at_1,e,zaG h (λ_ h=>hq _ _ h) hx⟩
theorem znp (ms:List M) (Q:M->En->Prop) (X:Xn->Prop) (h:zfN ms Q X):wFn 5 2 [] zjr ms Q X:=by
 obtain ⟨text_1,at_1,rfl,h⟩:=h
 unfold zbX at h
 refine zcF (e0:=[some (.fz text_1),some (.fz at_1),none,none,none]) rfl λE hrt hnx hx => ?_
 show (sSeq zg1 (sSeq zfc (sSeq zd1 (sSeq zdf (zbE))))) _ _
 refine zaz @(zaT @(zin @(k_pk rfl @(zsU h λhty h=>⟨k_wp rfl (hty),k_ac @(zad @(k_c @(k_an @(k_wp rfl @(zap @(zat @(zk6 h λt_1 h => ?_)))))))⟩))))
 show (sSeq zfc (sSeq zd1 (sSeq zdf (zbE)))) _ [some (.fz text_1),some (.fz at_1),some (.lst t_1),none,none]
 refine zaz @(zdQ @(zfv @(zbg @(k_w2 @(zad @(k_wN @(k_ac @(k_pk rfl @(k_an @(zcD rfl @(zat @(zdY h λt_2 h=>zad @(k_c @(k_wv @(k_wv @(zfu h λt_3 h=>j_tv @(zfw (λ(v:Bool)=>v) (λ(v:Bool)=>[some (.fz text_1),some (.fz at_1),some (.lst t_1),none,none]) h (λJ0 h=>J0 true h) (λJ0 h=>zbg @(k_w2 @(zad @(k_w2 @(k_pk rfl @(zad @(k_c @(k_wp rfl @(k_wv @(k_ix (asc h) λt_4 h=>zad @(k_c @(k_wv @(k_wv @(k_eq h λt_5 h=>j_tv (J0 t_5 h))))))))))))))) (λc_1 h=>zeb h (λh => ?_) (λh => ?_)))))))))))))))))))
 ·refine zqL @(zaC rfl @(k_pl h λh=>zqM h ((λx z=>hx x _ z) _)))
 ·refine k_nx ?_
  show (sSeq zd1 (sSeq zdf (zbE))) _ [some (.fz text_1),some (.fz at_1),some (.lst t_1),none,none]
  refine zaz @(k_tryX @(zaT @(k_wN @(k_ac @(k_fz @(k_w2 @(k_pk rfl @(zad @(k_c @(k_wp rfl @(k_wv @(k_ix h λt_6 h=>k_ac @(k_fz @(k_wN @(k_ac @(zad @(k_lcX @(zdJ @(zcq @(k_pk rfl @(zbn @(k_c @(zbo h λi_1 h=>zcr @(k_wp rfl @(k_sl h λt_7 h=>zda h λds_1 h=>zqR @(zua h (λ_ h=>h) (λ_ h=>h)) (λd_1 S KK XK hk hxk h=>g_nm @(zaI (fn:=zez) @(k_ac @(k_fz @(zaC rfl @(k_an @(za7 @(zbh ⟨rfl,_,rfl,zaL (tl h) (λt_8 h=>hk _ _ rfl h) (λx z=>hxk x _ rfl z)⟩)))))))) (λxs_1 h=>k_an @(zap @(zat @(zhq h λt_9 h=>k_an @(zap @(zap @(zat @(zgS rfl rfl (?_))))))))) (λx h=>k_hdl h (λh => ?_) ((λx z=>hx x _ z) x)))))))))))))))))))))))))))
  ·show (sSeq zdf (zbE)) _ [some (.fz text_1),some (.fz at_1),some (.lst t_1),some (.fz (.tup [t_6,t_9])),none]
   refine zaz @(zdQ @(zc1 @(zea @(zad @(zaI (fn:=zct) @(k_ac @(k_fz @(zaC rfl @(k_an @(za7 @(zbh ⟨rfl,_,rfl,zaL h (λt_10 h=>k_wv @(zec @(zeb h (λh => ?_) (λh => ?_)))) (λx z=>hx x _ z)⟩)))))))))))
   ·refine zqL @(zaC rfl @(k_pl h λh=>zqM h ((λx z=>hx x _ z) _)))
   ·refine k_nx ?_
    try with_reducible show zbE _ _
    show zbE _ [some (.fz text_1),some (.fz at_1),some (.lst t_1),some (.fz (.tup [t_6,t_9])),none]
    refine zod rfl (?_)
    exact hrt _ _ h
  ·refine zqL @(zaC rfl @(k_pl h λh=>zqM h ((λx z=>hx x _ z) _)))
def zge:WS:=sSet 1 (wLcX (iEn (wVar 0)) (.tp [.nm 6,.nm 7]) (zdp) (za0 zfd (zag (oFz (wVar 7)) (zag (oFz (wVar 6)) (aNil)))) [6,7])
def zeG:WS:=sSet 2 (zuF)
def zhD:WS:=sIf (tVal (w2 (opIn false) (oPk 3) (oPk 2)))
 (zcz "Twice" "name" (wVar 3))
 (sNx)
def zcu:WS:=sSub opSt 2 (oPk 3) (wC (.bl true))
def zfO:WS:=sSeq (zhD) (zcu)
def zdD:WS:=sFor (iSeq (wVar 1)) (.tp [.nm 3,.nm 4])
 (zfO)
def zcH:WS:=sSet 5 (wN ze1 (zag (oVal (wN zfx (zag (oPk 1) (aNil)))) (aNil)))
def zb5:WS:=sIf (zel (tTru (oVal (za0 zf0 (zag (oFz (wVar 5)) (aNil))))))
 (zqI ⟨"NoStock",none⟩)
 (sNx)
def zbc:WS:=sRet (oPk 5)
def zh6:WS:=sSeq (zge) (sSeq (zeG) (sSeq (zdD) (sSeq (zcH) (sSeq (zb5) (zbc)))))
abbrev zle:Type:=D
def zbK (d_2:D) (s_1:List (Key×D)):R (List (Key×D)) :=
 R.bind (nUn2 d_2) λp_2 =>
 R.bind (nIn false p_2.1 (.dK s_1)) λt_2 =>
 if t_2=true then
 R.bind (nPl p_2.1) λ_=>.ex ⟨"Twice",some ("name",p_2.1)⟩
 else
 R.bind (nStK s_1 p_2.1 (.bl true)) λknown_1 =>
 .ok known_1
@[irreducible] def zdN (texts_1:D):R (zle) :=
  R.bind (zoY texts_1) λds_1 =>
  R.bind (lcMX (λd_1:D=>R.bind (nUn2 d_1) λp_1=>zbX p_1.2 p_1.1) ds_1) λxs_1 =>
  R.bind (R.forS (zbK) xs_1 ([]:List (Key×D))) λs_2 =>
  R.bind (zcs (.lst xs_1)) λt_3 =>
  R.bind (zcC (.lst t_3)) λt_4 =>
  R.bind (zfZ t_4) λt_5 =>
  if (!t_5)=true then
  .ex ⟨"NoStock",none⟩
  else
  .ok t_4
abbrev zfe (ms:List M) (Q:M->En->Prop) (X:Xn->Prop):Prop:=∃ (texts_1:D),ms=[(.fz texts_1)]/\(zdN texts_1).post (λr=>Q (M.fz r) [none]) X
abbrev zeA:Fn:=⟨1,[],zfe⟩
theorem zjs:zcS zfe:=λms Q Q' X X' hq hx ⟨texts_1,e,h⟩=>⟨texts_1,e,zaG h (λ_ h=>hq _ _ h) hx⟩
theorem zmn (ms:List M) (Q:M->En->Prop) (X:Xn->Prop) (h:zfe ms Q X):wFn 8 1 [] zh6 ms Q X:=by
 obtain ⟨texts_1,rfl,h⟩:=h
 unfold zdN at h
 refine zcF (e0:=[some (.fz texts_1),none,none,none,none,none,none,none]) rfl λE hrt hnx hx => ?_
 show (sSeq zge (sSeq zeG (sSeq zdD (sSeq zcH (sSeq zb5 (zbc)))))) _ _
 refine zaz @(zaT @(k_lcX @(k_ien @(zaC rfl @(k_enum h λds_1 h=>zqR @(zaL h (λ_ h=>h) (λ_ h=>h)) (λd_1 S KK XK hk hxk h=>zt5 h λp_1 h=>zi5 @(g_nm @(zi5 @(g_nm @(zvf @(zaI (fn:=zfd) @(k_ac @(k_fz @(zaC rfl @(k_ac @(k_fz @(zaC rfl @(k_an @(za7 @(za7 @(zbh ⟨rfl,_,_,rfl,zaL (tl h) (λt_1 h=>hk _ _ rfl h) (λx z=>hxk x _ rfl z)⟩)))))))))))))))) (λxs_1 h => ?_) (λx z=>hx x _ z))))))
 show (sSeq zeG (sSeq zdD (sSeq zcH (sSeq zb5 (zbc))))) _ [some (.fz texts_1),some (.lst xs_1),none,none,none,none,none,none]
 refine zaz @(zaT @(k_dK (?_)))
 show (sSeq zdD (sSeq zcH (sSeq zb5 (zbc)))) _ [some (.fz texts_1),some (.lst xs_1),some (.dK ([]:List (Key×D))),none,none,none,none,none]
 refine zaz @(zk2 @(zdJ @(zi4 rfl @(zvs rfl @(zk3 (λ(s_1:List (Key×D)) (j_1:Option M×Option M)=>[some (.fz texts_1),some (.fz (.lst xs_1)),some (.dK s_1),j_1.1,j_1.2,none,none,none]) ?_ ?_ _ ([]:List (Key×D)) (none,none) h)))))
 ·intro d_2 s_1 j_1 N S hn h
  refine zt5 h λp_2 h=>zi5 @(g_nm @(zi5 @(g_nm @(zvf (?_)))))
  show zfO _ [some (.fz texts_1),some (.fz (.lst xs_1)),some (.dK s_1),some (.fz p_2.1),some (.fz p_2.2),none,none,none]
  refine zaz @(zdQ @(zbg @(k_w2 @(k_pk rfl @(k_pk rfl @(k_wp rfl @(k_wp rfl @(k_in h λt_2 h=>j_tv @(zeb h (λh => ?_) (λh => ?_))))))))))
  ·refine zqL @(zaC rfl @(k_pl h λh=>zqM h ((λx z=>hx x _ z) _)))
  ·refine k_nx ?_
   try with_reducible show zcu _ _
   show zcu _ [some (.fz texts_1),some (.fz (.lst xs_1)),some (.dK s_1),some (.fz p_2.1),some (.fz p_2.2),none,none,none]
   refine ztZ @(k_c @(zt0 rfl @(k_pk rfl @(zt1 rfl rfl @(k_wp rfl @(k_stK h λknown_1 h => ?_))))))
   exact hn known_1 ((some (.fz p_2.1)),(some (.fz p_2.2))) h
 ·intro s_2 j_2 h
  show (sSeq zcH (sSeq zb5 (zbc))) _ [some (.fz texts_1),some (.fz (.lst xs_1)),some (.dK s_2),j_2.1,j_2.2,none,none,none]
  refine zaz @(zaT @(k_wN @(k_ac @(zad @(k_wN @(k_ac @(k_pk rfl @(k_an @(zcD rfl @(zat @(zlZ h λt_3 h=>k_an @(zap @(zat @(zhq h λt_4 h => ?_))))))))))))))
  show (sSeq zb5 (zbc)) _ [some (.fz texts_1),some (.fz (.lst xs_1)),some (.dK s_2),j_2.1,j_2.2,some (.fz t_4),none,none]
  refine zaz @(zdQ @(zc1 @(zea @(zad @(zaI (fn:=zf0) @(k_ac @(k_fz @(zaC rfl @(k_an @(za7 @(zbh ⟨rfl,_,rfl,zaL h (λt_5 h=>k_wv @(zec @(zeb h (λh => ?_) (λh => ?_)))) (λx z=>hx x _ z)⟩)))))))))))
  ·refine zvu h ((λx z=>hx x _ z) _)
  ·refine k_nx ?_
   try with_reducible show zbc _ _
   show zbc _ [some (.fz texts_1),some (.fz (.lst xs_1)),some (.dK s_2),j_2.1,j_2.2,some (.fz t_4),none,none]
   refine zod rfl (?_)
   exact hrt _ _ h
def zfl (a:Hd) (x:Xn):WS:=sSet 1 (wN zcd (zag (oFz (wIsF 0 a x "NoText")) (zag (oFz (wIsF 0 a x "Twice")) (zag (oFz (wIsF 0 a x "NoStock")) (zag (oFz (wIsF 0 a x "NoPlace")) (aNil))))))
def zdR (a:Hd) (x:Xn):WS:=sSet 1 (w2 zaS (oPk 1) (oVal (wN zcd (zag (oFz (wIsF 0 a x "Shared")) (zag (oFz (wIsF 0 a x "NoNet")) (zag (oFz (wIsF 0 a x "NoRow")) (zag (oFz (wIsF 0 a x "NoRoad")) (aNil))))))))
def zbC (a:Hd) (x:Xn):WS:=sRet (oVal (w2 zaS (oPk 1) (oVal (wN zcd (zag (oFz (wIsF 0 a x "NoRule")) (zag (oFz (wIsF 0 a x "ValueError")) (aNil)))))))
def zgf (a:Hd) (x:Xn):WS:=(sSeq (zfl a x) (sSeq (zdR a x) (zbC a x)))
abbrev zjt:Type:=List D
@[irreducible] def zaD (x:Xn):R (zjt) :=
  R.bind (zcf (.lst [(.bl (subX x.cls "NoText")),(.bl (subX x.cls "Twice")),(.bl (subX x.cls "NoStock")),(.bl (subX x.cls "NoPlace"))]) (.lst [(.bl (subX x.cls "Shared")),(.bl (subX x.cls "NoNet")),(.bl (subX x.cls "NoRow")),(.bl (subX x.cls "NoRoad"))])) λt_1 =>
  R.bind (zcf (.lst t_1) (.lst [(.bl (subX x.cls "NoRule")),(.bl (subX x.cls "ValueError"))])) λt_2 =>
  .ok t_2
abbrev zbF:FnX:=⟨λx Q=>(zaD x).post (λr=>Q (M.lst r)) (λ_=>False)⟩
theorem zcv:zqJ zbF:=λx Q Q' hq h=>zaG h (λ_ h=>hq _ h) (λ_ z=>z)
theorem zj4 (x:Xn) (Q:M->Prop) (h:zbF.sp x Q):wFnF 2 zgf x Q:=by
 have h:(zaD x).post (λr=>Q (M.lst r)) (λ_=>False):=h
 unfold zaD at h
 refine zvy λa E hrt hnx hx => ?_
 show (sSeq (zfl a x) (sSeq (zdR a x) ((zbC a x)))) _ [some (.fz (hdD a x)),none]
 refine zaz @(zaT @(zjT (λQ hq=>k_wN @(k_ac @(k_fz @(zjU rfl @(k_ac @(k_fz @(zjU rfl @(k_ac @(k_fz @(zjU rfl @(k_ac @(k_fz @(zjU rfl @(k_an @(zap @(zap @(zap @(zap @(zat @(zdb rfl rfl hq)))))))))))))))))))) (?_)))
 show (sSeq (zdR a x) ((zbC a x))) _ [some (.fz (hdD a x)),some (.lst [(.bl (subX x.cls "NoText")),(.bl (subX x.cls "Twice")),(.bl (subX x.cls "NoStock")),(.bl (subX x.cls "NoPlace"))])]
 refine zaz @(zaT @(k_w2 @(k_pk rfl @(zad @(zjT (λQ hq=>k_wN @(k_ac @(k_fz @(zjU rfl @(k_ac @(k_fz @(zjU rfl @(k_ac @(k_fz @(zjU rfl @(k_ac @(k_fz @(zjU rfl @(k_an @(zap @(zap @(zap @(zap @(zat @(zdb rfl rfl hq)))))))))))))))))))) @(k_wp rfl @(k_wv @(zdk h λt_1 h => ?_))))))))
 try with_reducible show (zbC a x) _ _
 show (zbC a x) _ [some (.fz (hdD a x)),some (.lst t_1)]
 refine za2 @(k_w2 @(k_pk rfl @(zad @(zjT (λQ hq=>k_wN @(k_ac @(k_fz @(zjU rfl @(k_ac @(k_fz @(zjU rfl @(k_an @(zap @(zap @(zat @(zdb rfl rfl hq)))))))))))) @(k_wp rfl @(k_wv @(zdk h λt_2 h=>hrt _ _ h)))))))
def zeQ:WS:=sSet 1 (wC .non)
def zdx:WS:=sSet 2 (wN zcd (aNil))
def zcw:WS:=sSet 3 (wC .non)
def zbL:WS:=zvA 4 [("NoText",λa x=>sSeq (sSet 2 (zkm zbF 4 a x)) (sSet 3 (wAtF 4 a x "at"))),("Twice",λa x=>sSeq (sSet 2 (zkm zbF 4 a x)) (sSet 3 (wAtF 4 a x "name"))),("WeaveError",λa x=>sSet 2 (zkm zbF 4 a x))]
 (sSet 1 (za0 zeA (zag (oFz (wVar 0)) (aNil))))
def zam:WS:=sRet (oVal (wN zfo (zag (oFz (wVar 1)) (zag (oFz (wVar 2)) (zag (oFz (wVar 3)) (aNil))))))
def zfP:WS:=sSeq (zeQ) (sSeq (zdx) (sSeq (zcw) (sSeq (zbL) (zam))))
abbrev zit:Type:=D
@[irreducible] def zck (texts_1:D):R (zit) :=
  R.tryC (zdN texts_1) (λt_1 =>
  .ok (.tup [t_1,(.lst ([]:List D)),(.non)])) (λx=>if subX x.cls "NoText" = true then (R.bind (R.calm (zaD x)) λt_2=>R.bind (nAt "at" x) λt_3=>.ok (.tup [(.non),(.lst t_2),t_3])) else if subX x.cls "Twice" = true then (R.bind (R.calm (zaD x)) λt_4=>R.bind (nAt "name" x) λt_5=>.ok (.tup [(.non),(.lst t_4),t_5])) else if subX x.cls "WeaveError" = true then (R.bind (R.calm (zaD x)) λt_6=>.ok (.tup [(.non),(.lst t_6),(.non)])) else .ex x)
abbrev zdS (ms:List M) (Q:M->En->Prop) (X:Xn->Prop):Prop:=∃ (texts_1:D),ms=[(.fz texts_1)]/\(zck texts_1).post (λr=>Q (M.fz r) [none]) X
abbrev zdg:Fn:=⟨1,[],zdS⟩
theorem zg2:zcS zdS:=λms Q Q' X X' hq hx ⟨texts_1,e,h⟩=>⟨texts_1,e,zaG h (λ_ h=>hq _ _ h) hx⟩
theorem zju (ms:List M) (Q:M->En->Prop) (X:Xn->Prop) (h:zdS ms Q X):wFn 5 1 [] zfP ms Q X:=by
 obtain ⟨texts_1,rfl,h⟩:=h
 unfold zck at h
 refine zcF (e0:=[some (.fz texts_1),none,none,none,none]) rfl λE hrt hnx hx => ?_
 show (sSeq zeQ (sSeq zdx (sSeq zcw (sSeq zbL (zam))))) _ _
 refine zaz @(zaT @(k_c (?_)))
 show (sSeq zdx (sSeq zcw (sSeq zbL (zam)))) _ [some (.fz texts_1),some (.fz (.non)),none,none,none]
 refine zaz @(zaT @(k_wN @(k_an @(zat @(zdb rfl rfl (?_))))))
 show (sSeq zcw (sSeq zbL (zam))) _ [some (.fz texts_1),some (.fz (.non)),some (.lst ([]:List D)),none,none]
 refine zaz @(zaT @(k_c (?_)))
 show (sSeq zbL (zam)) _ [some (.fz texts_1),some (.fz (.non)),some (.lst ([]:List D)),some (.fz (.non)),none]
 refine zaz @(k_tryL @(zaT @(zaI (fn:=zeA) @(k_ac @(k_fz @(zaC rfl @(k_an @(za7 @(zbh ⟨rfl,_,rfl,zua h (λt_1 h => ?_) (λx h=>zud h (λa h => ?_) (λh=>zud h (λa h => ?_) (λh=>k_hdlF h (λa h => ?_) ((λx z=>hx x _ z) x))))⟩)))))))))
 ·try with_reducible show zam _ _
  show zam _ [some (.fz texts_1),some (.fz t_1),some (.lst ([]:List D)),some (.fz (.non)),none]
  refine za2 @(zjT (λQ hq=>k_wN @(k_ac @(k_fz @(zaC rfl @(k_ac @(k_fz @(zi4 rfl @(k_ac @(k_fz @(zaC rfl @(k_an @(zap @(zap @(zap @(zat @(zgS rfl rfl hq)))))))))))))))) (hrt _ _ h))
 ·refine zaz @(zaT @(zna rfl @(zqK h λt_2 h => ?_)))
  refine zaT @(k_atF h rfl λt_3 h => ?_)
  try with_reducible show zam _ _
  show zam _ [some (.fz texts_1),some (.fz (.non)),some (.lst t_2),some (.fz t_3),none]
  refine za2 @(zjT (λQ hq=>k_wN @(k_ac @(k_fz @(zaC rfl @(k_ac @(k_fz @(zi4 rfl @(k_ac @(k_fz @(zaC rfl @(k_an @(zap @(zap @(zap @(zat @(zgS rfl rfl hq)))))))))))))))) (hrt _ _ h))
 ·refine zaz @(zaT @(zna rfl @(zqK h λt_4 h => ?_)))
  refine zaT @(k_atF h rfl λt_5 h => ?_)
  try with_reducible show zam _ _
  show zam _ [some (.fz texts_1),some (.fz (.non)),some (.lst t_4),some (.fz t_5),none]
  refine za2 @(zjT (λQ hq=>k_wN @(k_ac @(k_fz @(zaC rfl @(k_ac @(k_fz @(zi4 rfl @(k_ac @(k_fz @(zaC rfl @(k_an @(zap @(zap @(zap @(zat @(zgS rfl rfl hq)))))))))))))))) (hrt _ _ h))
 ·refine zaT @(zna rfl @(zqK h λt_6 h => ?_))
  try with_reducible show zam _ _
  show zam _ [some (.fz texts_1),some (.fz (.non)),some (.lst t_6),some (.fz (.non)),none]
  refine za2 @(zjT (λQ hq=>k_wN @(k_ac @(k_fz @(zaC rfl @(k_ac @(k_fz @(zi4 rfl @(k_ac @(k_fz @(zaC rfl @(k_an @(zap @(zap @(zap @(zat @(zgS rfl rfl hq)))))))))))))))) (hrt _ _ h))
def zkt:WS:=sRet (oVal (wMt "str" zf9 (oVal (wC (.str " "))) (zag (oVal (w2 zaS (oVal (wN zcd (zag (oFz (w2 opIx (oPk 0) (oVal (wC (.int 0))))) (zag (oVal (wC (.str "="))) (aNil))))) (oVal (wLc (iSeq (w2 opIx (oPk 0) (oVal (wC (.int 1))))) (.nm 1) (zdp) (w2 zaS (oVal (w2 opIx (oPk 1) (oVal (wC (.int 1))))) (oVal (w2 opIx (oPk 1) (oVal (wC (.int 0)))))) [1])))) (aNil))))
abbrev znq:Type:=D
@[irreducible] def zdy (row_1:D):R (znq) :=
  R.bind (nIx row_1 (.int 0)) λt_1 =>
  R.bind (nIx row_1 (.int 1)) λt_2 =>
  R.bind (zbf t_2) λds_1 =>
  R.bind (lcM (λd_1:D=>R.bind (nIx d_1 (.int 1)) λt_3=>R.bind (nIx d_1 (.int 0)) λt_4=>R.bind (nAdd t_3 t_4) λt_5=>.ok t_5.d) ds_1) λxs_1 =>
  R.bind (zcf (.lst [t_1,(.str "=")]) (.lst xs_1)) λt_6 =>
  R.bind (zhp (.str " ") (.lst t_6)) λt_7 =>
  .ok t_7
abbrev zgA (ms:List M) (Q:M->En->Prop) (X:Xn->Prop):Prop:=∃ (row_1:D),ms=[(.fz row_1)]/\(zdy row_1).post (λr=>Q (M.fz r) [none]) X
abbrev zd4:Fn:=⟨1,[],zgA⟩
theorem zlf:zcS zgA:=λms Q Q' X X' hq hx ⟨row_1,e,h⟩=>⟨row_1,e,zaG h (λ_ h=>hq _ _ h) hx⟩
theorem zpa (ms:List M) (Q:M->En->Prop) (X:Xn->Prop) (h:zgA ms Q X):wFn 2 1 [] zkt ms Q X:=by
 obtain ⟨row_1,rfl,h⟩:=h
 unfold zdy at h
 refine zcF (e0:=[some (.fz row_1),none]) rfl λE hrt hnx hx => ?_
 refine za2 @(zin @(zad @(k_c (⟨k_wv (rfl),k_ac @(zad @(k_w2 @(zad @(k_wN @(k_ac @(k_fz @(k_w2 @(k_pk rfl @(zad @(k_c @(k_wp rfl @(k_wv @(k_ix h λt_1 h=>k_ac @(zad @(k_c @(k_an @(zap @(zap @(zat @(zdb rfl rfl @(zad @(k_lc @(zdJ @(k_w2 @(k_pk rfl @(zad @(k_c @(k_wp rfl @(k_wv @(k_ix h λt_2 h=>zda h λds_1 h=>zi8 h (λd_1 S KK hk h=>g_nm @(k_w2 @(zad @(k_w2 @(k_pk rfl @(zad @(k_c @(k_wp rfl @(k_wv @(k_ix h λt_3 h=>zad @(k_w2 @(k_pk rfl @(zad @(k_c @(k_wp rfl @(k_wv @(k_ix h λt_4 h=>k_wv @(k_wv @(zbJ h λt_5 h=>hk _ _ rfl h))))))))))))))))))) λxs_1 h=>k_wv @(k_wv @(zdk h λt_6 h=>k_an @(k_wv @(zap @(zat @(zi2 h λt_7 h=>hrt _ _ h))))))))))))))))))))))))))))))))))))⟩))))
def zfQ:WS:=sSet 2 (w2 zaS (oVal (wC (.str " =+-0nzA_"))) (oPk 1))
def zeh:WS:=sSet 3 (w2 opIx (oPk 2) (oVal (za0 zaq (zag (oPk 0) (zag (oFz (wN zdr (zag (oPk 2) (aNil)))) (aNil))))))
def zdh:WS:=sSet 4 (za0 zaq (zag (oPk 0) (zag (oFz (w2 zaS (oVal (wN zdr (zag (oPk 1) (aNil)))) (oVal (wC (.int 1))))) (aNil))))
def zcl:WS:=sSet 5 (wMt "str" zgq (oPk 1) (zag (oVal (wC (.str " "))) (aNil)))
def zbM:WS:=sSet 6 (za0 zaq (zag (oPk 0) (zag (oFz (wN zdr (zag (oPk 5) (aNil)))) (aNil))))
def zbz:WS:=sSet 7 (w2 opIx (oVal (wKl [.str "",.str "=",.str "+n",.str "-net",.str "n",.str "+",.str "+N",.str "++n",.str "*n",.str "add",.str "abcdefghi",.str "+abcdefghi"])) (oVal (za0 zaq (zag (oPk 0) (zag (oVal (wC (.int 12))) (aNil))))))
def zbi:WS:=sSet 8 (wN zcd (zag (oFz (w2 zaS (oVal (w2 zaS (oVal (wSl opSl (oPk 1) (pNo) (pInt (wVar 4)))) (oPk 3))) (oVal (wSl opSl (oPk 1) (pInt (wVar 4)) (pNo))))) (zag (oFz (w2 zaS (oVal (wSl opSl (oPk 1) (pNo) (pInt (wVar 4)))) (oVal (wSl opSl (oPk 1) (pInt (w2 zaS (oPk 4) (oVal (wC (.int 1))))) (pNo))))) (zag (oFz (w2 zaS (oVal (w2 zaS (oVal (wSl opSl (oPk 1) (pNo) (pInt (wVar 4)))) (oPk 3))) (oVal (wSl opSl (oPk 1) (pInt (w2 zaS (oPk 4) (oVal (wC (.int 1))))) (pNo))))) (zag (oFz (wSl opSl (oPk 1) (pNo) (pInt (wVar 4)))) (aNil))))))
def za3:WS:=sSet 8 (w2 zaS (oPk 8) (oVal (wN zcd (zag (oFz (wMt "str" zf9 (oVal (wC (.str " "))) (zag (oVal (w2 zaS (oVal (w2 zaS (oVal (wSl opSl (oPk 5) (pNo) (pInt (wVar 6)))) (oVal (wN zcd (zag (oFz (wVar 7)) (aNil)))))) (oVal (wSl opSl (oPk 5) (pInt (w2 zaS (oPk 6) (oVal (wC (.int 1))))) (pNo))))) (aNil)))) (zag (oFz (wMt "str" zf9 (oVal (wC (.str " "))) (zag (oVal (w2 zaS (oVal (wSl opSl (oPk 5) (pNo) (pInt (wVar 6)))) (oVal (wSl opSl (oPk 5) (pInt (w2 zaS (oPk 6) (oVal (wC (.int 1))))) (pNo))))) (aNil)))) (aNil))))))
def zaU:WS:=sSet 8 (w2 zaS (oPk 8) (oVal (wN zcd (zag (oFz (wMt "str" zf9 (oVal (wC (.str " "))) (zag (oVal (w2 zaS (oVal (w2 zaS (oVal (wSl opSl (oPk 5) (pNo) (pInt (wVar 6)))) (oVal (wN zcd (zag (oFz (wVar 7)) (aNil)))))) (oVal (wSl opSl (oPk 5) (pInt (wVar 6)) (pNo))))) (aNil)))) (zag (oFz (wMt "str" zf9 (oVal (wC (.str " "))) (zag (oVal (wSl opSl (oPk 5) (pNo) (pInt (wC (.int 2))))) (aNil)))) (zag (oFz (w2 zaS (oPk 1) (oVal (wC (.str " +n -n +n -n"))))) (aNil)))))))
def zaB:WS:=sRet (oVal (w2 opIx (oVal (w2 zaS (oPk 8) (oVal (wN zcd (zag (oFz (w2 zaS (oPk 1) (oVal (wC (.str " +nn"))))) (zag (oVal (wC (.str ""))) (aNil))))))) (oVal (za0 zaq (zag (oPk 0) (zag (oVal (wC (.int 11))) (aNil)))))))
def zg3:WS:=sSeq (zfQ) (sSeq (zeh) (sSeq (zdh) (sSeq (zcl) (sSeq (zbM) (sSeq (zbz) (sSeq (zbi) (sSeq (za3) (sSeq (zaU) (zaB)))))))))
abbrev zj5:Type:=D×List D
@[irreducible] def zbw (held_1:List D) (text_1:D):R (zj5) :=
  R.bind (nAdd (.str " =+-0nzA_") text_1) λt_1 =>
  R.bind (nLen t_1.d) λt_2 =>
  R.bind (zaH held_1 t_2) λt_3 =>
  R.bind (nIx t_1.d t_3.1) λt_4 =>
  R.bind (nLen text_1) λt_5 =>
  R.bind (nAdd t_5 (.int 1)) λt_6 =>
  R.bind (zaH t_3.2 t_6.d) λt_7 =>
  R.bind (nTy "str" text_1) λu_1 =>
  R.bind (zgb text_1 (.str " ")) λt_8 =>
  R.bind (nLen (.lst t_8)) λt_9 =>
  R.bind (zaH t_7.2 t_9) λt_10 =>
  R.bind (zaH t_10.2 (.int 12)) λt_11 =>
  R.bind (nIx (.lst [.str "",.str "=",.str "+n",.str "-net",.str "n",.str "+",.str "+N",.str "++n",.str "*n",.str "add",.str "abcdefghi",.str "+abcdefghi"]) t_11.1) λt_12 =>
  R.bind (nInt t_7.1) λi_1 =>
  R.bind (nSl text_1 none (some i_1)) λt_13 =>
  R.bind (nAdd t_13.d t_4) λt_14 =>
  R.bind (nInt t_7.1) λi_2 =>
  R.bind (nSl text_1 (some i_2) none) λt_15 =>
  R.bind (nAdd t_14.d t_15.d) λt_16 =>
  R.bind (nInt t_7.1) λi_3 =>
  R.bind (nSl text_1 none (some i_3)) λt_17 =>
  R.bind (nAdd t_7.1 (.int 1)) λt_18 =>
  R.bind (nInt t_18.d) λi_4 =>
  R.bind (nSl text_1 (some i_4) none) λt_19 =>
  R.bind (nAdd t_17.d t_19.d) λt_20 =>
  R.bind (nInt t_7.1) λi_5 =>
  R.bind (nSl text_1 none (some i_5)) λt_21 =>
  R.bind (nAdd t_21.d t_4) λt_22 =>
  R.bind (nAdd t_7.1 (.int 1)) λt_23 =>
  R.bind (nInt t_23.d) λi_6 =>
  R.bind (nSl text_1 (some i_6) none) λt_24 =>
  R.bind (nAdd t_22.d t_24.d) λt_25 =>
  R.bind (nInt t_7.1) λi_7 =>
  R.bind (nSl text_1 none (some i_7)) λt_26 =>
  R.bind (nInt t_10.1) λi_8 =>
  R.bind (nSl (.lst t_8) none (some i_8)) λt_27 =>
  R.bind (zcf t_27.d (.lst [t_12])) λt_28 =>
  R.bind (nAdd t_10.1 (.int 1)) λt_29 =>
  R.bind (nInt t_29.d) λi_9 =>
  R.bind (nSl (.lst t_8) (some i_9) none) λt_30 =>
  R.bind (zcf (.lst t_28) t_30.d) λt_31 =>
  R.bind (zhp (.str " ") (.lst t_31)) λt_32 =>
  R.bind (nInt t_10.1) λi_10 =>
  R.bind (nSl (.lst t_8) none (some i_10)) λt_33 =>
  R.bind (nAdd t_10.1 (.int 1)) λt_34 =>
  R.bind (nInt t_34.d) λi_11 =>
  R.bind (nSl (.lst t_8) (some i_11) none) λt_35 =>
  R.bind (nAdd t_33.d t_35.d) λt_36 =>
  R.bind (zhp (.str " ") t_36.d) λt_37 =>
  R.bind (zcf (.lst [t_16.d,t_20.d,t_25.d,t_26.d]) (.lst [t_32,t_37])) λt_38 =>
  R.bind (nInt t_10.1) λi_12 =>
  R.bind (nSl (.lst t_8) none (some i_12)) λt_39 =>
  R.bind (zcf t_39.d (.lst [t_12])) λt_40 =>
  R.bind (nInt t_10.1) λi_13 =>
  R.bind (nSl (.lst t_8) (some i_13) none) λt_41 =>
  R.bind (zcf (.lst t_40) t_41.d) λt_42 =>
  R.bind (zhp (.str " ") (.lst t_42)) λt_43 =>
  R.bind (nInt (.int 2)) λi_14 =>
  R.bind (nSl (.lst t_8) none (some i_14)) λt_44 =>
  R.bind (zhp (.str " ") t_44.d) λt_45 =>
  R.bind (nAdd text_1 (.str " +n -n +n -n")) λt_46 =>
  R.bind (zcf (.lst t_38) (.lst [t_43,t_45,t_46.d])) λt_47 =>
  R.bind (nAdd text_1 (.str " +nn")) λt_48 =>
  R.bind (zcf (.lst t_47) (.lst [t_48.d,(.str "")])) λt_49 =>
  R.bind (zaH t_11.2 (.int 11)) λt_50 =>
  R.bind (nIx (.lst t_49) t_50.1) λt_51 =>
  .ok (t_51,t_50.2)
abbrev zeH (ms:List M) (Q:M->En->Prop) (X:Xn->Prop):Prop:=∃ (held_1:List D) (text_1:D),ms=[(.lst held_1),(.fz text_1)]/\(zbw held_1 text_1).post (λr=>Q (M.fz r.1) [some (.lst r.2),none]) X
abbrev zcx:Fn:=⟨2,[0],zeH⟩
theorem ziu:zcS zeH:=λms Q Q' X X' hq hx ⟨held_1,text_1,e,h⟩=>⟨held_1,text_1,e,zaG h (λ_ h=>hq _ _ h) hx⟩
theorem zlg (ms:List M) (Q:M->En->Prop) (X:Xn->Prop) (h:zeH ms Q X):wFn 9 2 [0] zg3 ms Q X:=by
 obtain ⟨held_1,text_1,rfl,h⟩:=h
 unfold zbw at h
 refine zcF (e0:=[some (.lst held_1),some (.fz text_1),none,none,none,none,none,none,none]) rfl λE hrt hnx hx => ?_
 show (sSeq zfQ (sSeq zeh (sSeq zdh (sSeq zcl (sSeq zbM (sSeq zbz (sSeq zbi (sSeq za3 (sSeq zaU (zaB)))))))))) _ _
 refine zaz @(zaT @(k_w2 @(zad @(k_c @(k_pk rfl @(k_wv @(k_wp rfl @(zbJ h λt_1 h => ?_))))))))
 show (sSeq zeh (sSeq zdh (sSeq zcl (sSeq zbM (sSeq zbz (sSeq zbi (sSeq za3 (sSeq zaU (zaB))))))))) _ [some (.lst held_1),some (.fz text_1),some t_1,none,none,none,none,none,none]
 refine zaz @(zaT @(k_w2 @(k_pk rfl @(zad @(zaI (fn:=zaq) @(k_ac @(k_pk rfl @(k_ac @(k_fz @(k_wN @(k_ac @(k_pk rfl @(k_an @(zcD rfl @(zat @(zdY h λt_2 h=>k_an @(zcE rfl @(za7 @(zbh ⟨rfl,_,_,rfl,zaL h (λt_3 h=>k_wp rfl @(k_wv @(k_ix h λt_4 h => ?_))) (λx z=>hx x _ z)⟩)))))))))))))))))))
 show (sSeq zdh (sSeq zcl (sSeq zbM (sSeq zbz (sSeq zbi (sSeq za3 (sSeq zaU (zaB)))))))) _ [some (.lst t_3.2),some (.fz text_1),some t_1,some (.fz t_4),none,none,none,none,none]
 refine zaz @(zaT @(zaI (fn:=zaq) @(k_ac @(k_pk rfl @(k_ac @(k_fz @(k_w2 @(zad @(k_wN @(k_ac @(k_pk rfl @(k_an @(zcD rfl @(zat @(zdY h λt_5 h=>zad @(k_c @(k_wv @(k_wv @(zbJ h λt_6 h=>k_an @(zcE rfl @(za7 @(zbh ⟨rfl,_,_,rfl,zaL h (λt_7 h => ?_) (λx z=>hx x _ z)⟩))))))))))))))))))))))
 show (sSeq zcl (sSeq zbM (sSeq zbz (sSeq zbi (sSeq za3 (sSeq zaU (zaB))))))) _ [some (.lst t_7.2),some (.fz text_1),some t_1,some (.fz t_4),some (.fz t_7.1),none,none,none,none]
 refine zaz @(zaT @(zin @(k_pk rfl @(zsU h λhty h=>⟨k_wp rfl (hty),k_ac @(zad @(k_c @(k_an @(k_wp rfl @(zap @(zat @(zk6 h λt_8 h => ?_)))))))⟩))))
 show (sSeq zbM (sSeq zbz (sSeq zbi (sSeq za3 (sSeq zaU (zaB)))))) _ [some (.lst t_7.2),some (.fz text_1),some t_1,some (.fz t_4),some (.fz t_7.1),some (.lst t_8),none,none,none]
 refine zaz @(zaT @(zaI (fn:=zaq) @(k_ac @(k_pk rfl @(k_ac @(k_fz @(k_wN @(k_ac @(k_pk rfl @(k_an @(zcD rfl @(zat @(zdY h λt_9 h=>k_an @(zcE rfl @(za7 @(zbh ⟨rfl,_,_,rfl,zaL h (λt_10 h => ?_) (λx z=>hx x _ z)⟩))))))))))))))))
 show (sSeq zbz (sSeq zbi (sSeq za3 (sSeq zaU (zaB))))) _ [some (.lst t_10.2),some (.fz text_1),some t_1,some (.fz t_4),some (.fz t_7.1),some (.lst t_8),some (.fz t_10.1),none,none]
 refine zaz @(zaT @(k_w2 @(zad @(k_kl @(zad @(zaI (fn:=zaq) @(k_ac @(k_pk rfl @(k_ac @(zad @(k_c @(k_an @(zcE rfl @(za7 @(zbh ⟨rfl,_,_,rfl,zaL h (λt_11 h=>k_wv @(k_wv @(k_ix h λt_12 h => ?_))) (λx z=>hx x _ z)⟩)))))))))))))))
 show (sSeq zbi (sSeq za3 (sSeq zaU (zaB)))) _ [some (.lst t_11.2),some (.fz text_1),some t_1,some (.fz t_4),some (.fz t_7.1),some (.lst t_8),some (.fz t_10.1),some (.fz t_12),none]
 refine zaz @(zaT @(k_wN @(k_ac @(k_fz @(k_w2 @(zad @(k_w2 @(zad @(zcq @(k_pk rfl @(zcr @(zbn @(zaC rfl @(zbo h λi_1 h=>k_wp rfl @(k_sl h λt_13 h=>k_pk rfl @(k_wv @(k_wp rfl @(zbJ h λt_14 h=>zad @(zcq @(k_pk rfl @(zbn @(zaC rfl @(zbo h λi_2 h=>zcr @(k_wp rfl @(k_sl h λt_15 h=>k_wv @(k_wv @(zbJ h λt_16 h=>k_ac @(k_fz @(k_w2 @(zad @(zcq @(k_pk rfl @(zcr @(zbn @(zaC rfl @(zbo h λi_3 h=>k_wp rfl @(k_sl h λt_17 h=>zad @(zcq @(k_pk rfl @(zbn @(k_w2 @(k_pk rfl @(zad @(k_c @(k_wp rfl @(k_wv @(zbJ h λt_18 h=>zbo h λi_4 h=>zcr @(k_wp rfl @(k_sl h λt_19 h=>k_wv @(k_wv @(zbJ h λt_20 h=>k_ac @(k_fz @(k_w2 @(zad @(k_w2 @(zad @(zcq @(k_pk rfl @(zcr @(zbn @(zaC rfl @(zbo h λi_5 h=>k_wp rfl @(k_sl h λt_21 h=>k_pk rfl @(k_wv @(k_wp rfl @(zbJ h λt_22 h=>zad @(zcq @(k_pk rfl @(zbn @(k_w2 @(k_pk rfl @(zad @(k_c @(k_wp rfl @(k_wv @(zbJ h λt_23 h=>zbo h λi_6 h=>zcr @(k_wp rfl @(k_sl h λt_24 h=>k_wv @(k_wv @(zbJ h λt_25 h=>k_ac @(k_fz @(zcq @(k_pk rfl @(zcr @(zbn @(zaC rfl @(zbo h λi_7 h=>k_wp rfl @(k_sl h λt_26 h=>k_an @(zap @(zap @(zap @(zap @(zat @(zdb rfl rfl (?_)))))))))))))))))))))))))))))))))))))))))))))))))))))))))))))))))))))))))))))))))))))))))))))))
 show (sSeq za3 (sSeq zaU (zaB))) _ [some (.lst t_11.2),some (.fz text_1),some t_1,some (.fz t_4),some (.fz t_7.1),some (.lst t_8),some (.fz t_10.1),some (.fz t_12),some (.lst [t_16.d,t_20.d,t_25.d,t_26.d])]
 refine zaz @(zaT @(k_w2 @(k_pk rfl @(zad @(k_wN @(k_ac @(k_fz @(zin @(zad @(k_c (⟨k_wv (rfl),k_ac @(zad @(k_w2 @(zad @(k_w2 @(zad @(zcq @(k_pk rfl @(zcr @(zbn @(zaC rfl @(zbo h λi_8 h=>k_wp rfl @(k_sl h λt_27 h=>zad @(k_wN @(k_ac @(k_fz @(zaC rfl @(k_an @(zap @(zat @(zdb rfl rfl @(k_wv @(k_wv @(zdk h λt_28 h=>zad @(zcq @(k_pk rfl @(zbn @(k_w2 @(k_pk rfl @(zad @(k_c @(k_wp rfl @(k_wv @(zbJ h λt_29 h=>zbo h λi_9 h=>zcr @(k_wp rfl @(k_sl h λt_30 h=>k_wv @(k_wv @(zdk h λt_31 h=>k_an @(k_wv @(zap @(zat @(zi2 h λt_32 h=>k_ac @(k_fz @(zin @(zad @(k_c (⟨k_wv (rfl),k_ac @(zad @(k_w2 @(zad @(zcq @(k_pk rfl @(zcr @(zbn @(zaC rfl @(zbo h λi_10 h=>k_wp rfl @(k_sl h λt_33 h=>zad @(zcq @(k_pk rfl @(zbn @(k_w2 @(k_pk rfl @(zad @(k_c @(k_wp rfl @(k_wv @(zbJ h λt_34 h=>zbo h λi_11 h=>zcr @(k_wp rfl @(k_sl h λt_35 h=>k_wv @(k_wv @(zbJ h λt_36 h=>k_an @(k_wv @(zap @(zat @(zi2 h λt_37 h=>k_an @(zap @(zap @(zat @(zdb rfl rfl @(k_wp rfl @(k_wv @(zdk h λt_38 h => ?_)))))))))))))))))))))))))))))))))))⟩))))))))))))))))))))))))))))))))))))))))))))))⟩)))))))))))
 show (sSeq zaU (zaB)) _ [some (.lst t_11.2),some (.fz text_1),some t_1,some (.fz t_4),some (.fz t_7.1),some (.lst t_8),some (.fz t_10.1),some (.fz t_12),some (.lst t_38)]
 refine zaz @(zaT @(k_w2 @(k_pk rfl @(zad @(k_wN @(k_ac @(k_fz @(zin @(zad @(k_c (⟨k_wv (rfl),k_ac @(zad @(k_w2 @(zad @(k_w2 @(zad @(zcq @(k_pk rfl @(zcr @(zbn @(zaC rfl @(zbo h λi_12 h=>k_wp rfl @(k_sl h λt_39 h=>zad @(k_wN @(k_ac @(k_fz @(zaC rfl @(k_an @(zap @(zat @(zdb rfl rfl @(k_wv @(k_wv @(zdk h λt_40 h=>zad @(zcq @(k_pk rfl @(zbn @(zaC rfl @(zbo h λi_13 h=>zcr @(k_wp rfl @(k_sl h λt_41 h=>k_wv @(k_wv @(zdk h λt_42 h=>k_an @(k_wv @(zap @(zat @(zi2 h λt_43 h=>k_ac @(k_fz @(zin @(zad @(k_c (⟨k_wv (rfl),k_ac @(zad @(zcq @(k_pk rfl @(zcr @(zbn @(k_c @(zbo h λi_14 h=>k_wp rfl @(k_sl h λt_44 h=>k_an @(k_wv @(zap @(zat @(zi2 h λt_45 h=>k_ac @(k_fz @(k_w2 @(k_pk rfl @(zad @(k_c @(k_wp rfl @(k_wv @(zbJ h λt_46 h=>k_an @(zap @(zap @(zap @(zat @(zdb rfl rfl @(k_wp rfl @(k_wv @(zdk h λt_47 h => ?_))))))))))))))))))))))))))))⟩)))))))))))))))))))))))))))))))))))))))))⟩)))))))))))
 try with_reducible show zaB _ _
 show zaB _ [some (.lst t_11.2),some (.fz text_1),some t_1,some (.fz t_4),some (.fz t_7.1),some (.lst t_8),some (.fz t_10.1),some (.fz t_12),some (.lst t_47)]
 refine za2 @(k_w2 @(zad @(k_w2 @(k_pk rfl @(zad @(k_wN @(k_ac @(k_fz @(k_w2 @(k_pk rfl @(zad @(k_c @(k_wp rfl @(k_wv @(zbJ h λt_48 h=>k_ac @(zad @(k_c @(k_an @(zap @(zap @(zat @(zdb rfl rfl @(k_wp rfl @(k_wv @(zdk h λt_49 h=>zad @(zaI (fn:=zaq) @(k_ac @(k_pk rfl @(k_ac @(zad @(k_c @(k_an @(zcE rfl @(za7 @(zbh ⟨rfl,_,_,rfl,zaL h (λt_50 h=>k_wv @(k_wv @(k_ix h λt_51 h=>hrt _ _ h))) (λx z=>hx x _ z)⟩)))))))))))))))))))))))))))))))))))
def zfm:WS:=sSet 2 (za0 zaq (zag (oPk 0) (zag (oVal (wC (.int 6))) (aNil))))
def zdT:WS:=sSet 3 (za0 zaq (zag (oPk 0) (zag (oFz (wN zdr (zag (oPk 1) (aNil)))) (aNil))))
def zcJ:WS:=sIf (tVal (w2 (zen .lt) (oPk 2) (oVal (wC (.int 3)))))
 (sRet (oVal (w2 zaS (oVal (w2 zaS (oVal (wSl opSl (oPk 1) (pNo) (pInt (wVar 3)))) (oVal (wN zcd (zag (oFz (za0 zcx (zag (oPk 0) (zag (oFz (w2 opIx (oPk 1) (oPk 3))) (aNil))))) (aNil)))))) (oVal (wSl opSl (oPk 1) (pInt (w2 zaS (oPk 3) (oVal (wC (.int 1))))) (pNo))))))
 (sNx)
def zgB:WS:=sSet 4 (w2 opIx (oVal (wN zcd (zag (oFz (w2 opIx (oPk 1) (oPk 3))) (zag (oFz (w2 zaS (oVal (w2 opIx (oPk 1) (oPk 3))) (oVal (wC (.str " +n"))))) (zag (oFz (w2 zaS (oVal (w2 opIx (oVal (wMt "str" zgq (oVal (w2 opIx (oPk 1) (oPk 3))) (zag (oVal (wC (.str " "))) (aNil)))) (oVal (wC (.int 0))))) (oVal (wC (.str " = -n"))))) (aNil)))))) (oVal (za0 zaq (zag (oPk 0) (zag (oVal (wC (.int 3))) (aNil))))))
def zbY:WS:=sRet (oVal (w2 zaS (oVal (w2 zaS (oVal (wSl opSl (oPk 1) (pNo) (pInt (za0 zaq (zag (oPk 0) (zag (oFz (w2 zaS (oVal (wN zdr (zag (oPk 1) (aNil)))) (oVal (wC (.int 1))))) (aNil))))))) (oVal (wN zcd (zag (oFz (wVar 4)) (aNil)))))) (oPk 1)))
def zhE:WS:=sSeq (zgB) (zbY)
def zb4:WS:=sIf (tVal (w2 (opEq false) (oPk 2) (oVal (wC (.int 3)))))
 (zhE)
 (sNx)
def zgC:WS:=sSet 5 (wLc (iSeq (wSl opSl (oVal (wC (.str "abcdefgh"))) (pNo) (pInt (w2 zsi (oVal (w2 opIx (oVal (wKl [.int 8,.int 9])) (oVal (za0 zaq (zag (oPk 0) (zag (oVal (wC (.int 2))) (aNil))))))) (oVal (wN zdr (zag (oPk 1) (aNil)))))))) (.nm 6) (zdp) (w2 zaS (oVal (w2 zaS (oVal (wC (.str "zz"))) (oPk 6))) (oVal (wC (.str " = +n")))) [6])
def zbZ:WS:=sRet (oVal (wIf (tVal (w2 (opEq false) (oVal (za0 zaq (zag (oPk 0) (zag (oVal (wC (.int 2))) (aNil))))) (oVal (wC (.int 0))))) (w2 zaS (oPk 1) (oPk 5)) (w2 zaS (oPk 5) (oPk 1))))
def zhF:WS:=sSeq (zgC) (zbZ)
def zbD:WS:=sIf (tVal (w2 (opEq false) (oPk 2) (oVal (wC (.int 4)))))
 (zhF)
 (sNx)
def zaW:WS:=sRet (oVal (w2 opIx (oVal (wN zcd (zag (oFz (wN zcd (aNil))) (zag (oFz (wSl opSl (oPk 1) (pInt (wVar 3)) (pNo))) (zag (oFz (w2 zaS (oPk 1) (oPk 1))) (zag (oFz (wLc (iSeq (wVar 1)) (.nm 7) (zdp) (za0 zcx (zag (oPk 0) (zag (oFz (wVar 7)) (aNil)))) [7])) (aNil))))))) (oVal (za0 zaq (zag (oPk 0) (zag (oVal (wC (.int 4))) (aNil)))))))
def zgg:WS:=sSeq (zfm) (sSeq (zdT) (sSeq (zcJ) (sSeq (zb4) (sSeq (zbD) (zaW)))))
abbrev zjv:Type:=M×List D
@[irreducible] def zcI (held_1:List D) (texts_1:D):R (zjv) :=
  R.bind (zaH held_1 (.int 6)) λt_1 =>
  R.bind (nLen texts_1) λt_2 =>
  R.bind (zaH t_1.2 t_2) λt_3 =>
  R.bind (nOrd .lt t_1.1 (.int 3)) λt_4 =>
  if t_4=true then
  R.bind (nInt t_3.1) λi_1 =>
  R.bind (nSl texts_1 none (some i_1)) λt_5 =>
  R.bind (nIx texts_1 t_3.1) λt_6 =>
  R.bind (zbw t_3.2 t_6) λt_7 =>
  R.bind (zcf t_5.d (.lst [t_7.1])) λt_8 =>
  R.bind (nAdd t_3.1 (.int 1)) λt_9 =>
  R.bind (nInt t_9.d) λi_2 =>
  R.bind (nSl texts_1 (some i_2) none) λt_10 =>
  R.bind (zcf (.lst t_8) t_10.d) λt_11 =>
  .ok ((.lst t_11),t_7.2)
  else
  R.bind (nEq false t_1.1 (.int 3)) λt_12 =>
  if t_12=true then
  R.bind (nIx texts_1 t_3.1) λt_13 =>
  R.bind (nIx texts_1 t_3.1) λt_14 =>
  R.bind (nAdd t_14 (.str " +n")) λt_15 =>
  R.bind (nIx texts_1 t_3.1) λt_16 =>
  R.bind (nTy "str" t_16) λu_1 =>
  R.bind (zgb t_16 (.str " ")) λt_17 =>
  R.bind (nIx (.lst t_17) (.int 0)) λt_18 =>
  R.bind (nAdd t_18 (.str " = -n")) λt_19 =>
  R.bind (zaH t_3.2 (.int 3)) λt_20 =>
  R.bind (nIx (.lst [t_13,t_15.d,t_19.d]) t_20.1) λt_21 =>
  R.bind (nLen texts_1) λt_22 =>
  R.bind (nAdd t_22 (.int 1)) λt_23 =>
  R.bind (zaH t_20.2 t_23.d) λt_24 =>
  R.bind (nInt t_24.1) λi_3 =>
  R.bind (nSl texts_1 none (some i_3)) λt_25 =>
  R.bind (zcf t_25.d (.lst [t_21])) λt_26 =>
  R.bind (zcf (.lst t_26) texts_1) λt_27 =>
  .ok ((.lst t_27),t_24.2)
  else
  R.bind (nEq false t_1.1 (.int 4)) λt_28 =>
  if t_28=true then
  R.bind (zaH t_3.2 (.int 2)) λt_29 =>
  R.bind (nIx (.lst [.int 8,.int 9]) t_29.1) λt_30 =>
  R.bind (nLen texts_1) λt_31 =>
  R.bind (nSub t_30 t_31) λt_32 =>
  R.bind (nInt t_32) λi_4 =>
  R.bind (nSl (.str "abcdefgh") none (some i_4)) λt_33 =>
  R.bind (zbf t_33.d) λds_1 =>
  R.bind (lcM (λd_1:D=>R.bind (nAdd (.str "zz") d_1) λt_34=>R.bind (nAdd t_34.d (.str " = +n")) λt_35=>.ok t_35.d) ds_1) λxs_1 =>
  R.bind (zaH t_29.2 (.int 2)) λt_36 =>
  R.bind (nEq false t_36.1 (.int 0)) λt_37 =>
  R.bind (if t_37=true then (zcf texts_1 (.lst xs_1):R (List D)) else zcf (.lst xs_1) texts_1) λt_40 =>
  .ok ((.lst t_40),t_36.2)
  else
  R.bind (nInt t_3.1) λi_5 =>
  R.bind (nSl texts_1 (some i_5) none) λt_41 =>
  R.bind (nAdd texts_1 texts_1) λt_42 =>
  R.bind (zbf texts_1) λds_2 =>
  R.bind (lcS (λ(d_3:D) (s:List D)=>R.bind (zbw s d_3) λt_44=>.ok ((t_44.1,t_44.2))) ds_2 t_3.2) λxs_2 =>
  R.bind (zaH xs_2.2 (.int 4)) λt_45 =>
  R.bind (nIx (.lst [(.lst ([]:List D)),t_41.d,t_42.d,(.lst xs_2.1)]) t_45.1) λt_46 =>
  .ok ((.fz t_46),t_45.2)
abbrev zei (ms:List M) (Q:M->En->Prop) (X:Xn->Prop):Prop:=∃ (held_1:List D) (texts_1:D),ms=[(.lst held_1),(.fz texts_1)]/\(zcI held_1 texts_1).post (λr=>Q (r.1) [some (.lst r.2),none]) X
abbrev zdE:Fn:=⟨2,[0],zei⟩
theorem zhG:zcS zei:=λms Q Q' X X' hq hx ⟨held_1,texts_1,e,h⟩=>⟨held_1,texts_1,e,zaG h (λ_ h=>hq _ _ h) hx⟩
theorem zj6 (ms:List M) (Q:M->En->Prop) (X:Xn->Prop) (h:zei ms Q X):wFn 8 2 [0] zgg ms Q X:=by
 obtain ⟨held_1,texts_1,rfl,h⟩:=h
 unfold zcI at h
 refine zcF (e0:=[some (.lst held_1),some (.fz texts_1),none,none,none,none,none,none]) rfl λE hrt hnx hx => ?_
 show (sSeq zfm (sSeq zdT (sSeq zcJ (sSeq zb4 (sSeq zbD (zaW)))))) _ _
 refine zaz @(zaT @(zaI (fn:=zaq) @(k_ac @(k_pk rfl @(k_ac @(zad @(k_c @(k_an @(zcE rfl @(za7 @(zbh ⟨rfl,_,_,rfl,zaL h (λt_1 h => ?_) (λx z=>hx x _ z)⟩)))))))))))
 show (sSeq zdT (sSeq zcJ (sSeq zb4 (sSeq zbD (zaW))))) _ [some (.lst t_1.2),some (.fz texts_1),some (.fz t_1.1),none,none,none,none,none]
 refine zaz @(zaT @(zaI (fn:=zaq) @(k_ac @(k_pk rfl @(k_ac @(k_fz @(k_wN @(k_ac @(k_pk rfl @(k_an @(zcD rfl @(zat @(zdY h λt_2 h=>k_an @(zcE rfl @(za7 @(zbh ⟨rfl,_,_,rfl,zaL h (λt_3 h => ?_) (λx z=>hx x _ z)⟩))))))))))))))))
 show (sSeq zcJ (sSeq zb4 (sSeq zbD (zaW)))) _ [some (.lst t_3.2),some (.fz texts_1),some (.fz t_1.1),some (.fz t_3.1),none,none,none,none]
 refine zaz @(zdQ @(zbg @(k_w2 @(k_pk rfl @(zad @(k_c @(k_wp rfl @(k_wv @(zfu h λt_4 h=>j_tv @(zeb h (λh => ?_) (λh => ?_)))))))))))
 ·refine za2 @(k_w2 @(zad @(k_w2 @(zad @(zcq @(k_pk rfl @(zcr @(zbn @(zaC rfl @(zbo h λi_1 h=>k_wp rfl @(k_sl h λt_5 h=>zad @(k_wN @(k_ac @(k_fz @(zaI (fn:=zcx) @(k_ac @(k_pk rfl @(k_ac @(k_fz @(k_w2 @(k_pk rfl @(k_pk rfl @(k_wp rfl @(k_wp rfl @(k_ix h λt_6 h=>k_an @(zcE rfl @(za7 @(zbh ⟨rfl,_,_,rfl,zaL h (λt_7 h=>k_an @(zap @(zat @(zdb rfl rfl @(k_wv @(k_wv @(zdk h λt_8 h=>zad @(zcq @(k_pk rfl @(zbn @(k_w2 @(k_pk rfl @(zad @(k_c @(k_wp rfl @(k_wv @(zbJ h λt_9 h=>zbo h λi_2 h=>zcr @(k_wp rfl @(k_sl h λt_10 h=>k_wv @(k_wv @(zdk h λt_11 h=>hrt _ _ h))))))))))))))))))))) (λx z=>hx x _ z)⟩))))))))))))))))))))))))))))
 ·refine k_nx ?_
  show (sSeq zb4 (sSeq zbD (zaW))) _ [some (.lst t_3.2),some (.fz texts_1),some (.fz t_1.1),some (.fz t_3.1),none,none,none,none]
  refine zaz @(zdQ @(zbg @(k_w2 @(k_pk rfl @(zad @(k_c @(k_wp rfl @(k_wv @(k_eq h λt_12 h=>j_tv @(zeb h (λh => ?_) (λh => ?_)))))))))))
  ·refine zaz @(zaT @(k_w2 @(zad @(k_wN @(k_ac @(k_fz @(k_w2 @(k_pk rfl @(k_pk rfl @(k_wp rfl @(k_wp rfl @(k_ix h λt_13 h=>k_ac @(k_fz @(k_w2 @(zad @(k_w2 @(k_pk rfl @(k_pk rfl @(k_wp rfl @(k_wp rfl @(k_ix h λt_14 h=>zad @(k_c @(k_wv @(k_wv @(zbJ h λt_15 h=>k_ac @(k_fz @(k_w2 @(zad @(k_w2 @(zad @(zin @(zad @(k_w2 @(k_pk rfl @(k_pk rfl @(k_wp rfl @(k_wp rfl @(k_ix h λt_16 h=>zsU h λhty h=>⟨k_wv (hty),k_ac @(zad @(k_c @(k_an @(k_wv @(zap @(zat @(zk6 h λt_17 h=>zad @(k_c @(k_wv @(k_wv @(k_ix h λt_18 h=>zad @(k_c @(k_wv @(k_wv @(zbJ h λt_19 h=>k_an @(zap @(zap @(zap @(zat @(zdb rfl rfl @(zad @(zaI (fn:=zaq) @(k_ac @(k_pk rfl @(k_ac @(zad @(k_c @(k_an @(zcE rfl @(za7 @(zbh ⟨rfl,_,_,rfl,zaL h (λt_20 h=>k_wv @(k_wv @(k_ix h λt_21 h => ?_))) (λx z=>hx x _ z)⟩)))))))))))))))))))))))))))))))⟩))))))))))))))))))))))))))))))))))))))
   try with_reducible show zbY _ _
   show zbY _ [some (.lst t_20.2),some (.fz texts_1),some (.fz t_1.1),some (.fz t_3.1),some (.fz t_21),none,none,none]
   refine za2 @(k_w2 @(zad @(k_w2 @(zad @(zcq @(k_pk rfl @(zcr @(zbn @(zaI (fn:=zaq) @(k_ac @(k_pk rfl @(k_ac @(k_fz @(k_w2 @(zad @(k_wN @(k_ac @(k_pk rfl @(k_an @(zcD rfl @(zat @(zdY h λt_22 h=>zad @(k_c @(k_wv @(k_wv @(zbJ h λt_23 h=>k_an @(zcE rfl @(za7 @(zbh ⟨rfl,_,_,rfl,zaL h (λt_24 h=>zbo h λi_3 h=>k_wp rfl @(k_sl h λt_25 h=>zad @(k_wN @(k_ac @(k_fz @(zaC rfl @(k_an @(zap @(zat @(zdb rfl rfl @(k_wv @(k_wv @(zdk h λt_26 h=>k_pk rfl @(k_wv @(k_wp rfl @(zdk h λt_27 h=>hrt _ _ h)))))))))))))))) (λx z=>hx x _ z)⟩)))))))))))))))))))))))))))))
  ·refine k_nx ?_
   show (sSeq zbD (zaW)) _ [some (.lst t_3.2),some (.fz texts_1),some (.fz t_1.1),some (.fz t_3.1),none,none,none,none]
   refine zaz @(zdQ @(zbg @(k_w2 @(k_pk rfl @(zad @(k_c @(k_wp rfl @(k_wv @(k_eq h λt_28 h=>j_tv @(zeb h (λh => ?_) (λh => ?_)))))))))))
   ·refine zaz @(zaT @(k_lc @(zdJ @(zcq @(zad @(k_c @(zcr @(zbn @(k_w2 @(zad @(k_w2 @(zad @(k_kl @(zad @(zaI (fn:=zaq) @(k_ac @(k_pk rfl @(k_ac @(zad @(k_c @(k_an @(zcE rfl @(za7 @(zbh ⟨rfl,_,_,rfl,zaL h (λt_29 h=>k_wv @(k_wv @(k_ix h λt_30 h=>zad @(k_wN @(k_ac @(k_pk rfl @(k_an @(zcD rfl @(zat @(zdY h λt_31 h=>k_wv @(k_wv @(k_sub h λt_32 h=>zbo h λi_4 h=>k_wv @(k_sl h λt_33 h=>zda h λds_1 h=>zi8 h (λd_1 S KK hk h=>g_nm @(k_w2 @(zad @(k_w2 @(zad @(k_c @(k_pk rfl @(k_wv @(k_wp rfl @(zbJ h λt_34 h=>zad @(k_c @(k_wv @(k_wv @(zbJ h λt_35 h=>hk _ _ rfl h)))))))))))))) λxs_1 h => ?_))))))))))))) (λx z=>hx x _ z)⟩))))))))))))))))))))))))
    try with_reducible show zbZ _ _
    show zbZ _ [some (.lst t_29.2),some (.fz texts_1),some (.fz t_1.1),some (.fz t_3.1),none,some (.lst xs_1),none,none]
    refine za2 @(zvd @(zbg @(k_w2 @(zad @(zaI (fn:=zaq) @(k_ac @(k_pk rfl @(k_ac @(zad @(k_c @(k_an @(zcE rfl @(za7 @(zbh ⟨rfl,_,_,rfl,zaL h (λt_36 h=>zad @(k_c @(k_wv @(k_wv @(k_eq h λt_37 h=>j_tv @(zve (λ(v:List D)=>M.lst v) (λ(v:List D)=>[some (.lst t_36.2),some (.fz texts_1),some (.fz t_1.1),some (.fz t_3.1),none,some (.lst xs_1),none,none]) h (λJ0 h=>k_w2 @(k_pk rfl @(k_pk rfl @(k_wp rfl @(k_wp rfl @(zdk h λt_38 h=>J0 t_38 h)))))) (λJ0 h=>k_w2 @(k_pk rfl @(k_pk rfl @(k_wp rfl @(k_wp rfl @(zdk h λt_39 h=>J0 t_39 h)))))) (λt_40 h=>hrt _ _ h))))))) (λx z=>hx x _ z)⟩))))))))))))))
   ·refine k_nx ?_
    try with_reducible show zaW _ _
    show zaW _ [some (.lst t_3.2),some (.fz texts_1),some (.fz t_1.1),some (.fz t_3.1),none,none,none,none]
    refine za2 @(k_w2 @(zad @(k_wN @(k_ac @(k_fz @(k_wN @(k_an @(zat @(zdb rfl rfl @(k_ac @(k_fz @(zcq @(k_pk rfl @(zbn @(zaC rfl @(zbo h λi_5 h=>zcr @(k_wp rfl @(k_sl h λt_41 h=>k_ac @(k_fz @(k_w2 @(k_pk rfl @(k_pk rfl @(k_wp rfl @(k_wp rfl @(zbJ h λt_42 h=>k_ac @(k_fz @(k_lc @(zdJ @(zaC rfl @(zda h λds_2 h=>zt6 (λs=>[some (.lst s),some (.fz texts_1),some (.fz t_1.1),some (.fz t_3.1),none,none,none,none]) t_3.2 rfl h (λd_3 s S KK hk h=>g_nm @(zaI (fn:=zcx) @(k_ac @(k_pk rfl @(k_ac @(k_fz @(zaC rfl @(k_an @(zcE rfl @(za7 @(zbh ⟨rfl,_,_,rfl,zaL h (λt_44 h=>hk _ _ t_44.2 rfl h) (λ_ z=>z.elim)⟩))))))))))) λxs_2 h=>k_an @(zap @(zap @(zap @(zap @(zat @(zdb rfl rfl @(zad @(zaI (fn:=zaq) @(k_ac @(k_pk rfl @(k_ac @(zad @(k_c @(k_an @(zcE rfl @(za7 @(zbh ⟨rfl,_,_,rfl,zaL h (λt_45 h=>k_wv @(k_wv @(k_ix h λt_46 h=>hrt _ _ h))) (λx z=>hx x _ z)⟩)))))))))))))))))))))))))))))))))))))))))))))))
def zmo:WS:=sRet (oVal (wAnd (zeN (zen .le) (zen .le) (oVal (wC (.int 1))) (oVal (wN zdr (zag (oPk 0) (aNil)))) (oVal (wC (.int 8)))) (w2 (opEq false) (oVal (wN zdr (zag (oVal (wLc (iSeq (wVar 0)) (.nm 1) (tVal (w2 (opIn true) (oPk 1) (oVal (wC (.str "abcdefghijklmnopqrstuvwxyz"))))) (wVar 1) [1])) (aNil)))) (oVal (wC (.int 0))))))
abbrev zpb:Type:=Bool
@[irreducible] def zdO (word_1:D):R (zpb) :=
  R.bind (nLen word_1) λt_1 =>
  R.bind (nOrd .le (.int 1) t_1) λt_2 =>
  R.bind (andB t_2 (nOrd .le t_1 (.int 8))) λc_1 =>
  R.bind (andB c_1 (R.bind (zbf word_1) λds_1=>R.bind (lcF (λd_1:D=>R.bind (nIn true d_1 (.str "abcdefghijklmnopqrstuvwxyz")) λt_4 =>
  if t_4=true then (.ok ((some d_1)):R (Option D)) else .ok none) ds_1) λxs_1=>R.bind (nLen (.lst xs_1)) λt_5=>nEq false t_5 (.int 0))) λc_2 =>
  .ok c_2
abbrev zhH (ms:List M) (Q:M->En->Prop) (X:Xn->Prop):Prop:=∃ (word_1:D),ms=[(.fz word_1)]/\(zdO word_1).post (λr=>Q (M.fz (.bl r)) [none]) X
abbrev zeR:Fn:=⟨1,[],zhH⟩
theorem zmp:zcS zhH:=λms Q Q' X X' hq hx ⟨word_1,e,h⟩=>⟨word_1,e,zaG h (λ_ h=>hq _ _ h) hx⟩
theorem zq3 (ms:List M) (Q:M->En->Prop) (X:Xn->Prop) (h:zhH ms Q X):wFn 2 1 [] zmo ms Q X:=by
 obtain ⟨word_1,rfl,h⟩:=h
 unfold zdO at h
 refine zcF (e0:=[some (.fz word_1),none]) rfl λE hrt hnx hx => ?_
 refine za2 @(ztW @(zhs @(zad @(k_c @(zad @(k_wN @(k_ac @(k_pk rfl @(k_an @(zcD rfl @(zat @(zdY h λt_1 h=>k_wv @(k_wv @(zfu h λt_2 h=>zht (λ(v:Bool)=>M.fz (.bl v)) (λ(v:Bool)=>[some (.fz word_1),none]) h (λJ1 h=>zad @(k_c @(k_wv @(k_wv @(zfu h λt_3 h=>J1 t_3 h))))) (λJ1 h=>J1 false h) (λc_1 h=>ztX (λ(v:Bool)=>M.fz (.bl v)) (λ(v:Bool)=>[some (.fz word_1),none]) h (λJ0 h=>k_w2 @(zad @(k_wN @(k_ac @(zad @(k_lc @(zdJ @(zaC rfl @(zda (asc h) λds_1 h=>zvg (asc h) (λd_1 S KK K0 hk h0 h=>g_nm @(zvh @(zbg @(k_w2 @(k_pk rfl @(zad @(k_c @(k_wp rfl @(k_wv @(k_in h λt_4 h=>j_tv @(zvi h (λh=>zaC rfl (hk _ _ rfl h)) (λh=>h0 _ rfl h)))))))))))) λxs_1 h=>k_an @(zap @(zat @(zdY (asc h) λt_5 h=>zad @(k_c @(k_wv @(k_wv @(k_eq h λt_6 h=>J0 t_6 h)))))))))))))))) (λJ0 h=>J0 false h) (λc_2 h=>hrt _ _ h))))))))))))))))
def zjw:WS:=sSet 1 (wMt "str" zgq (oPk 0) (zag (oVal (wC (.str " "))) (aNil)))
def zgD:WS:=sIf (tOrW (zel (tVal (zeN (zen .le) (zen .le) (oVal (wC (.int 3))) (oVal (wN zdr (zag (oPk 1) (aNil)))) (oVal (wC (.int 6)))))) (tOrW (tVal (w2 (opEq true) (oVal (w2 opIx (oPk 1) (oVal (wC (.int 1))))) (oVal (wC (.str "="))))) (zel (tTru (oVal (za0 zeR (zag (oFz (w2 opIx (oPk 1) (oVal (wC (.int 0))))) (aNil))))))))
 (sRet (oVal (wC .non)))
 (sNx)
def zh7:WS:=sIf (tOrW (tVal (w2 (opIn true) (oVal (wSl opSl (oPk 2) (pNo) (pInt (wC (.int 1))))) (oVal (wKl [.str "+",.str "-"])))) (zel (tTru (oVal (za0 zeR (zag (oFz (wSl opSl (oPk 2) (pInt (wC (.int 1))) (pNo))) (aNil)))))))
 (sRet (oVal (wC .non)))
 (sNx)
def zff:WS:=sFor (iSeq (wSl opSl (oPk 1) (pInt (wC (.int 2))) (pNo))) (.nm 2)
 (zh7)
def zcW:WS:=sRet (oVal (wN zfo (zag (oFz (w2 opIx (oPk 1) (oVal (wC (.int 0))))) (zag (oFz (wN ze1 (zag (oVal (wLc (iSeq (wSl opSl (oPk 1) (pInt (wC (.int 2))) (pNo))) (.nm 2) (zdp) (wN zfo (zag (oFz (wSl opSl (oPk 2) (pInt (wC (.int 1))) (pNo))) (zag (oFz (wSl opSl (oPk 2) (pNo) (pInt (wC (.int 1))))) (aNil)))) [2])) (aNil)))) (aNil)))))
def zmq:WS:=sSeq (zjw) (sSeq (zgD) (sSeq (zff) (zcW)))
abbrev zhI:Type:=D
def zfR (d_1:D) (s_1:Unit) (K:(Unit)->R (zhI)):R (zhI) :=
 R.bind (nInt (.int 1)) λi_2 =>
 R.bind (nSl d_1 none (some i_2)) λt_10 =>
 R.bind (nIn true t_10.d (.lst [.str "+",.str "-"])) λt_11 =>
 R.bind (orB t_11 (R.bind (nInt (.int 1)) λi_3=>R.bind (nSl d_1 (some i_3) none) λt_12=>R.bind (zdO t_12.d) λt_13=>.ok ((!t_13)))) λc_4 =>
 if c_4=true then
 .ok (.non)
 else
 K ()
@[irreducible] def zeS (text_1:D):R (zhI) :=
  R.bind (nTy "str" text_1) λu_1 =>
  R.bind (zgb text_1 (.str " ")) λt_1 =>
  R.bind (nLen (.lst t_1)) λt_2 =>
  R.bind (nOrd .le (.int 3) t_2) λt_3 =>
  R.bind (andB t_3 (nOrd .le t_2 (.int 6))) λc_1 =>
  R.bind (orB (!c_1) (R.bind (nIx (.lst t_1) (.int 1)) λt_5=>R.bind (nEq true t_5 (.str "=")) λt_6=>orB t_6 (R.bind (nIx (.lst t_1) (.int 0)) λt_7=>R.bind (zdO t_7) λt_8=>.ok ((!t_8))))) λc_3 =>
  if c_3=true then
  .ok (.non)
  else
  R.bind (nInt (.int 2)) λi_1 =>
  R.bind (nSl (.lst t_1) (some i_1) none) λt_9 =>
  R.bind (zbf t_9.d) λds_1 =>
  R.forN (zfR) (λ(s_2:Unit) =>
  R.bind (nIx (.lst t_1) (.int 0)) λt_14 =>
  R.bind (nInt (.int 2)) λi_4 =>
  R.bind (nSl (.lst t_1) (some i_4) none) λt_15 =>
  R.bind (zbf t_15.d) λds_2 =>
  R.bind (lcM (λd_2:D=>R.bind (nInt (.int 1)) λi_5=>R.bind (nSl d_2 (some i_5) none) λt_16=>R.bind (nInt (.int 1)) λi_6=>R.bind (nSl d_2 none (some i_6)) λt_17=>.ok ((.tup [t_16.d,t_17.d]))) ds_2) λxs_1 =>
  R.bind (zcC (.lst xs_1)) λt_18 =>
  .ok (.tup [t_14,t_18])) ds_1 ()
abbrev zhJ (ms:List M) (Q:M->En->Prop) (X:Xn->Prop):Prop:=∃ (text_1:D),ms=[(.fz text_1)]/\(zeS text_1).post (λr=>Q (M.fz r) [none]) X
abbrev zg4:Fn:=⟨1,[],zhJ⟩
theorem zmr:zcS zhJ:=λms Q Q' X X' hq hx ⟨text_1,e,h⟩=>⟨text_1,e,zaG h (λ_ h=>hq _ _ h) hx⟩
theorem zq4 (ms:List M) (Q:M->En->Prop) (X:Xn->Prop) (h:zhJ ms Q X):wFn 3 1 [] zmq ms Q X:=by
 obtain ⟨text_1,rfl,h⟩:=h
 unfold zeS at h
 refine zcF (e0:=[some (.fz text_1),none,none]) rfl λE hrt hnx hx => ?_
 show (sSeq zjw (sSeq zgD (sSeq zff (zcW)))) _ _
 refine zaz @(zaT @(zin @(k_pk rfl @(zsU h λhty h=>⟨k_wp rfl (hty),k_ac @(zad @(k_c @(k_an @(k_wp rfl @(zap @(zat @(zk6 h λt_1 h => ?_)))))))⟩))))
 show (sSeq zgD (sSeq zff (zcW))) _ [some (.fz text_1),some (.lst t_1),none]
 refine zaz @(zdQ @(zfv @(zc1 @(zbg @(zhs @(zad @(k_c @(zad @(k_wN @(k_ac @(k_pk rfl @(k_an @(zcD rfl @(zat @(zdY h λt_2 h=>k_wv @(k_wv @(zfu h λt_3 h=>zht (λ(v:Bool)=>M.fz (.bl v)) (λ(v:Bool)=>[some (.fz text_1),some (.lst t_1),none]) h (λJ5 h=>zad @(k_c @(k_wv @(k_wv @(zfu h λt_4 h=>J5 t_4 h))))) (λJ5 h=>J5 false h) (λc_1 h=>j_tv @(zfw (λ(v:Bool)=>v) (λ(v:Bool)=>[some (.fz text_1),some (.lst t_1),none]) h (λJ3 h=>J3 true h) (λJ3 h=>zfv @(zbg @(k_w2 @(zad @(k_w2 @(k_pk rfl @(zad @(k_c @(k_wp rfl @(k_wv @(k_ix (asc h) λt_5 h=>zad @(k_c @(k_wv @(k_wv @(k_eq (asc h) λt_6 h=>j_tv @(zfw (λ(v:Bool)=>v) (λ(v:Bool)=>[some (.fz text_1),some (.lst t_1),none]) h (λJ4 h=>J4 true h) (λJ4 h=>zc1 @(zea @(zad @(zaI (fn:=zeR) @(k_ac @(k_fz @(k_w2 @(k_pk rfl @(zad @(k_c @(k_wp rfl @(k_wv @(k_ix (asc h) λt_7 h=>k_an @(za7 @(zbh ⟨rfl,_,rfl,zaL (asc h) (λt_8 h=>k_wv @(zec (J4 (!t_8) h))) (λx z=>hx x _ z)⟩))))))))))))))) (λc_2 h=>J3 c_2 h))))))))))))))))) (λc_3 h=>zeb h (λh => ?_) (λh => ?_)))))))))))))))))))))
 ·refine za2 @(k_c (hrt _ _ h))
 ·refine k_nx ?_
  show (sSeq zff (zcW)) _ [some (.fz text_1),some (.lst t_1),none]
  refine zaz @(zk2 @(zdJ @(zcq @(k_pk rfl @(zbn @(k_c @(zbo h λi_1 h=>zcr @(k_wp rfl @(k_sl h λt_9 h=>zda h λds_1 h=>zi6 (λ(s_1:Unit) (j_1:Option M)=>[some (.fz text_1),some (.lst t_1),j_1]) ?_ ?_ _ () none h)))))))))
  ·intro d_1 s_1 j_1 N K hn h
   refine g_nm (?_)
   show zh7 _ [some (.fz text_1),some (.lst t_1),some (.fz d_1)]
   refine zdQ @(zfv @(zbg @(k_w2 @(zad @(zcq @(k_pk rfl @(zcr @(zbn @(k_c @(zbo h λi_2 h=>k_wp rfl @(k_sl h λt_10 h=>zad @(k_kl @(k_wv @(k_wv @(k_in h λt_11 h=>j_tv @(zfw (λ(v:Bool)=>v) (λ(v:Bool)=>[some (.fz text_1),some (.lst t_1),some (.fz d_1)]) h (λJ2 h=>J2 true h) (λJ2 h=>zc1 @(zea @(zad @(zaI (fn:=zeR) @(k_ac @(k_fz @(zcq @(k_pk rfl @(zbn @(k_c @(zbo (asc h) λi_3 h=>zcr @(k_wp rfl @(k_sl (asc h) λt_12 h=>k_an @(za7 @(zbh ⟨rfl,_,rfl,zaL (asc h) (λt_13 h=>k_wv @(zec (J2 (!t_13) h))) (λx z=>hx x _ z)⟩))))))))))))))) (λc_4 h=>zeb h (λh => ?_) (λh => ?_))))))))))))))))))
   ·refine za2 @(k_c (hrt _ _ h))
   ·refine k_nx ?_
    exact hn () (some (.fz d_1)) h
  ·intro s_2 j_2 h
   try with_reducible show zcW _ _
   show zcW _ [some (.fz text_1),some (.lst t_1),j_2]
   refine za2 @(k_wN @(k_ac @(k_fz @(k_w2 @(k_pk rfl @(zad @(k_c @(k_wp rfl @(k_wv @(k_ix h λt_14 h=>k_ac @(k_fz @(k_wN @(k_ac @(zad @(k_lc @(zdJ @(zcq @(k_pk rfl @(zbn @(k_c @(zbo h λi_4 h=>zcr @(k_wp rfl @(k_sl h λt_15 h=>zda h λds_2 h=>zi8 h (λd_2 S KK hk h=>g_nm @(k_wN @(k_ac @(k_fz @(zcq @(k_pk rfl @(zbn @(k_c @(zbo h λi_5 h=>zcr @(k_wp rfl @(k_sl h λt_16 h=>k_ac @(k_fz @(zcq @(k_pk rfl @(zcr @(zbn @(k_c @(zbo h λi_6 h=>k_wp rfl @(k_sl h λt_17 h=>k_an @(zap @(zap @(zat @(zgS rfl rfl (hk _ _ rfl h)))))))))))))))))))))))) λxs_1 h=>k_an @(zap @(zat @(zhq h λt_18 h=>k_an @(zap @(zap @(zat @(zgS rfl rfl (hrt _ _ h)))))))))))))))))))))))))))))))
def zeT:WS:=sSet 1 (wLc (iSeq (wVar 0)) (.nm 5) (zdp) (za0 zg4 (zag (oFz (wVar 5)) (aNil))) [5])
def zdz:WS:=sSet 2 (wLc (iR1 (oVal (wN zdr (zag (oPk 1) (aNil))))) (.nm 6) (tVal (w2 (opIs false) (oVal (w2 opIx (oPk 1) (oPk 6))) (oVal (wC .non)))) (wVar 6) [6])
def zcy:WS:=sIf (tVal (w2 (opEq true) (oPk 2) (oVal (wN zcd (aNil)))))
 (sRet (oVal (wN zfo (zag (oVal (wC .non)) (zag (oVal (wC (.int 0))) (zag (oFz (w2 opIx (oPk 2) (oVal (wC (.int 0))))) (aNil)))))))
 (sNx)
def zbN:WS:=sSet 3 (wLc (iSeq (wVar 1)) (.nm 7) (zdp) (w2 opIx (oPk 7) (oVal (wC (.int 0)))) [7])
def zby:WS:=sSet 4 (wLc (iR1 (oVal (wN zdr (zag (oPk 1) (aNil))))) (.nm 6) (tVal (w2 (opIn false) (oVal (w2 opIx (oPk 3) (oPk 6))) (oVal (wSl opSl (oPk 3) (pNo) (pInt (wVar 6)))))) (wVar 6) [6])
def zba:WS:=sIf (tVal (w2 (opEq true) (oPk 4) (oVal (wN zcd (aNil)))))
 (sRet (oVal (wN zfo (zag (oVal (wC .non)) (zag (oVal (wC (.int 1))) (zag (oFz (w2 opIx (oPk 3) (oVal (w2 opIx (oPk 4) (oVal (wC (.int 0))))))) (aNil)))))))
 (sNx)
def zaZ:WS:=sIf (zel (tVal (zeN (zen .le) (zen .le) (oVal (wC (.int 1))) (oVal (wN zdr (zag (oPk 1) (aNil)))) (oVal (wC (.int 8))))))
 (sRet (oVal (wC (.tup [.non,.int 2,.non]))))
 (sNx)
def zaF:WS:=sRet (oVal (wN zfo (zag (oFz (wN ze1 (zag (oVal (wN zfx (zag (oPk 1) (aNil)))) (aNil)))) (zag (oVal (wC .non)) (zag (oVal (wC .non)) (aNil))))))
def zfS:WS:=sSeq (zeT) (sSeq (zdz) (sSeq (zcy) (sSeq (zbN) (sSeq (zby) (sSeq (zba) (sSeq (zaZ) (zaF)))))))
abbrev ziv:Type:=D
@[irreducible] def zcm (texts_1:D):R (ziv) :=
  R.bind (zbf texts_1) λds_1 =>
  R.bind (lcM (λd_1:D=>zeS d_1) ds_1) λxs_1 =>
  R.bind (nLen (.lst xs_1)) λt_2 =>
  R.bind (nR1 t_2) λds_2 =>
  R.bind (lcF (λd_2:D=>R.bind (nIx (.lst xs_1) d_2) λt_3 =>
  R.bind (nIs false t_3 (.non)) λt_4 =>
  if t_4=true then (.ok ((some d_2)):R (Option D)) else .ok none) ds_2) λxs_2 =>
  R.bind (nEq true (.lst xs_2) (.lst ([]:List D))) λt_5 =>
  if t_5=true then
  R.bind (nIx (.lst xs_2) (.int 0)) λt_6 =>
  .ok (.tup [(.non),(.int 0),t_6])
  else
  R.bind (lcM (λd_3:D=>nIx d_3 (.int 0)) xs_1) λxs_3 =>
  R.bind (nLen (.lst xs_1)) λt_8 =>
  R.bind (nR1 t_8) λds_3 =>
  R.bind (lcF (λd_4:D=>R.bind (nIx (.lst xs_3) d_4) λt_9 =>
  R.bind (nInt d_4) λi_1 =>
  R.bind (nSl (.lst xs_3) none (some i_1)) λt_10 =>
  R.bind (nIn false t_9 t_10.d) λt_11 =>
  if t_11=true then (.ok ((some d_4)):R (Option D)) else .ok none) ds_3) λxs_4 =>
  R.bind (nEq true (.lst xs_4) (.lst ([]:List D))) λt_12 =>
  if t_12=true then
  R.bind (nIx (.lst xs_4) (.int 0)) λt_13 =>
  R.bind (nIx (.lst xs_3) t_13) λt_14 =>
  .ok (.tup [(.non),(.int 1),t_14])
  else
  R.bind (nLen (.lst xs_1)) λt_15 =>
  R.bind (nOrd .le (.int 1) t_15) λt_16 =>
  R.bind (andB t_16 (nOrd .le t_15 (.int 8))) λc_1 =>
  if (!c_1)=true then
  .ok (.tup [.non,.int 2,.non])
  else
  R.bind (zcs (.lst xs_1)) λt_18 =>
  R.bind (zcC (.lst t_18)) λt_19 =>
  .ok (.tup [t_19,(.non),(.non)])
abbrev zdU (ms:List M) (Q:M->En->Prop) (X:Xn->Prop):Prop:=∃ (texts_1:D),ms=[(.fz texts_1)]/\(zcm texts_1).post (λr=>Q (M.fz r) [none]) X
abbrev zdi:Fn:=⟨1,[],zdU⟩
theorem zg5:zcS zdU:=λms Q Q' X X' hq hx ⟨texts_1,e,h⟩=>⟨texts_1,e,zaG h (λ_ h=>hq _ _ h) hx⟩
theorem zjx (ms:List M) (Q:M->En->Prop) (X:Xn->Prop) (h:zdU ms Q X):wFn 8 1 [] zfS ms Q X:=by
 obtain ⟨texts_1,rfl,h⟩:=h
 unfold zcm at h
 refine zcF (e0:=[some (.fz texts_1),none,none,none,none,none,none,none]) rfl λE hrt hnx hx => ?_
 show (sSeq zeT (sSeq zdz (sSeq zcy (sSeq zbN (sSeq zby (sSeq zba (sSeq zaZ (zaF)))))))) _ _
 refine zaz @(zaT @(k_lc @(zdJ @(zaC rfl @(zda h λds_1 h=>zi8 h (λd_1 S KK hk h=>g_nm @(zaI (fn:=zg4) @(k_ac @(k_fz @(zaC rfl @(k_an @(za7 @(zbh ⟨rfl,_,rfl,zaL (tl h) (λt_1 h=>hk _ _ rfl h) (λ_ z=>z.elim)⟩)))))))) λxs_1 h => ?_)))))
 show (sSeq zdz (sSeq zcy (sSeq zbN (sSeq zby (sSeq zba (sSeq zaZ (zaF))))))) _ [some (.fz texts_1),some (.lst xs_1),none,none,none,none,none,none]
 refine zaz @(zaT @(k_lc @(zk1 @(zad @(k_wN @(k_ac @(k_pk rfl @(k_an @(zcD rfl @(zat @(zdY h λt_2 h=>k_wv @(k_r1 h λds_2 h=>zvg h (λd_2 S KK K0 hk h0 h=>g_nm @(zvh @(zbg @(k_w2 @(zad @(k_w2 @(k_pk rfl @(k_pk rfl @(k_wp rfl @(k_wp rfl @(k_ix h λt_3 h=>zad @(k_c @(k_wv @(k_wv @(k_is h λt_4 h=>j_tv @(zvi h (λh=>zaC rfl (hk _ _ rfl h)) (λh=>h0 _ rfl h))))))))))))))))) λxs_2 h => ?_))))))))))))
 show (sSeq zcy (sSeq zbN (sSeq zby (sSeq zba (sSeq zaZ (zaF)))))) _ [some (.fz texts_1),some (.lst xs_1),some (.lst xs_2),none,none,none,none,none]
 refine zaz @(zdQ @(zbg @(k_w2 @(k_pk rfl @(zad @(k_wN @(k_an @(zat @(zdb rfl rfl @(k_wp rfl @(k_wv @(k_eq h λt_5 h=>j_tv @(zeb h (λh => ?_) (λh => ?_))))))))))))))
 ·refine za2 @(k_wN @(k_ac @(zad @(k_c @(k_ac @(zad @(k_c @(k_ac @(k_fz @(k_w2 @(k_pk rfl @(zad @(k_c @(k_wp rfl @(k_wv @(k_ix h λt_6 h=>k_an @(zap @(zap @(zap @(zat @(zgS rfl rfl (hrt _ _ h))))))))))))))))))))))
 ·refine k_nx ?_
  show (sSeq zbN (sSeq zby (sSeq zba (sSeq zaZ (zaF))))) _ [some (.fz texts_1),some (.lst xs_1),some (.lst xs_2),none,none,none,none,none]
  refine zaz @(zaT @(k_lc @(zdJ @(zi4 rfl @(zvs rfl @(zi8 h (λd_3 S KK hk h=>g_nm @(k_w2 @(k_pk rfl @(zad @(k_c @(k_wp rfl @(k_wv @(k_ix (tl h) λt_7 h=>hk _ _ rfl h)))))))) λxs_3 h => ?_))))))
  show (sSeq zby (sSeq zba (sSeq zaZ (zaF)))) _ [some (.fz texts_1),some (.fz (.lst xs_1)),some (.lst xs_2),some (.lst xs_3),none,none,none,none]
  refine zaz @(zaT @(k_lc @(zk1 @(zad @(k_wN @(k_ac @(k_pk rfl @(k_an @(zcD rfl @(zat @(zdY h λt_8 h=>k_wv @(k_r1 h λds_3 h=>zvg h (λd_4 S KK K0 hk h0 h=>g_nm @(zvh @(zbg @(k_w2 @(zad @(k_w2 @(k_pk rfl @(k_pk rfl @(k_wp rfl @(k_wp rfl @(k_ix h λt_9 h=>zad @(zcq @(k_pk rfl @(zcr @(zbn @(zaC rfl @(zbo h λi_1 h=>k_wp rfl @(k_sl h λt_10 h=>k_wv @(k_wv @(k_in h λt_11 h=>j_tv @(zvi h (λh=>zaC rfl (hk _ _ rfl h)) (λh=>h0 _ rfl h)))))))))))))))))))))) λxs_4 h => ?_))))))))))))
  show (sSeq zba (sSeq zaZ (zaF))) _ [some (.fz texts_1),some (.fz (.lst xs_1)),some (.lst xs_2),some (.lst xs_3),some (.lst xs_4),none,none,none]
  refine zaz @(zdQ @(zbg @(k_w2 @(k_pk rfl @(zad @(k_wN @(k_an @(zat @(zdb rfl rfl @(k_wp rfl @(k_wv @(k_eq h λt_12 h=>j_tv @(zeb h (λh => ?_) (λh => ?_))))))))))))))
  ·refine za2 @(k_wN @(k_ac @(zad @(k_c @(k_ac @(zad @(k_c @(k_ac @(k_fz @(k_w2 @(k_pk rfl @(zad @(k_w2 @(k_pk rfl @(zad @(k_c @(k_wp rfl @(k_wv @(k_ix h λt_13 h=>k_wp rfl @(k_wv @(k_ix h λt_14 h=>k_an @(zap @(zap @(zap @(zat @(zgS rfl rfl (hrt _ _ h)))))))))))))))))))))))))))
  ·refine k_nx ?_
   show (sSeq zaZ (zaF)) _ [some (.fz texts_1),some (.fz (.lst xs_1)),some (.lst xs_2),some (.lst xs_3),some (.lst xs_4),none,none,none]
   refine zaz @(zdQ @(zc1 @(zbg @(zhs @(zad @(k_c @(zad @(k_wN @(k_ac @(k_pk rfl @(k_an @(zcD rfl @(zat @(zdY h λt_15 h=>k_wv @(k_wv @(zfu h λt_16 h=>zht (λ(v:Bool)=>M.fz (.bl v)) (λ(v:Bool)=>[some (.fz texts_1),some (.fz (.lst xs_1)),some (.lst xs_2),some (.lst xs_3),some (.lst xs_4),none,none,none]) h (λJ0 h=>zad @(k_c @(k_wv @(k_wv @(zfu h λt_17 h=>J0 t_17 h))))) (λJ0 h=>J0 false h) (λc_1 h=>j_tv @(zeb h (λh => ?_) (λh => ?_)))))))))))))))))))
   ·refine za2 @(k_c (hrt _ _ h))
   ·refine k_nx ?_
    try with_reducible show zaF _ _
    show zaF _ [some (.fz texts_1),some (.fz (.lst xs_1)),some (.lst xs_2),some (.lst xs_3),some (.lst xs_4),none,none,none]
    refine za2 @(k_wN @(k_ac @(k_fz @(k_wN @(k_ac @(zad @(k_wN @(k_ac @(k_pk rfl @(k_an @(zcD rfl @(zat @(zlZ h λt_18 h=>k_an @(zap @(zat @(zhq h λt_19 h=>k_ac @(zad @(k_c @(k_ac @(zad @(k_c @(k_an @(zap @(zap @(zap @(zat @(zgS rfl rfl (hrt _ _ h))))))))))))))))))))))))))))
def zb7:WS:=sSet 2 (za0 zd3 (zag (oFz (wVar 0)) (zag (oFz (wVar 1)) (aNil))))
def zbb:WS:=sSet 3 (za0 zgZ (zag (oPk 2) (aNil)))
def zb0:WS:=sSet 5 (za0 zfb (zag (oFz (w2 opIx (oPk 4) (oVal (wC (.int 0))))) (zag (oFz (w2 opIx (oPk 4) (oVal (wC (.int 1))))) (aNil))))
def zaw:WS:=sIf (tOrW (zel (tTru (oVal (wN ziY (zag (oPk 5) (zag (oVal (wC (.ty "str"))) (aNil))))))) (tVal (w2 (opEq true) (oPk 5) (oVal (za0 zd4 (zag (oFz (wVar 4)) (aNil)))))))
 (sRet (oVal (wC (.bl false))))
 (sNx)
def za8:WS:=sSeq (zb0) (zaw)
def zaM:WS:=sFor (iSeq (wVar 3)) (.nm 4)
 (za8)
def zaA:WS:=sSet 6 (wLc (iSeq (za0 zg0 (zag (oPk 2) (zag (oFz (wN zdr (zag (oPk 3) (aNil)))) (aNil))))) (.nm 14) (zdp) (za0 zd4 (zag (oFz (w2 opIx (oPk 3) (oPk 14))) (aNil))) [14])
def zar:WS:=sSet 7 (za0 zdE (zag (oVal (za0 zd3 (zag (oFz (wVar 0)) (zag (oFz (w2 zaS (oPk 1) (oVal (wC (.int 1))))) (aNil))))) (zag (oFz (wVar 6)) (aNil))))
def zb1:WS:=sSet 9 (wN zn7 (zag (oPk 8) (aNil)))
def za4:WS:=sAsg (.tp [.nm 10,.nm 11,.nm 12]) (za0 zdi (zag (oFz (wVar 8)) (aNil)))
def zaJ:WS:=sSet 5 (za0 zdg (zag (oFz (wVar 9)) (aNil)))
def zax:WS:=sSet 13 (wIf (tVal (w2 (opIs true) (oPk 11) (oVal (wC .non)))) (w2 zaS (oVal (wLc (iR1 (oVal (wC (.int 9)))) (.nm 14) (zdp) (w2 (opEq false) (oPk 14) (oPk 11)) [14])) (oVal (wKl [.bl true]))) (wN zcd (aNil)))
def zaj:WS:=sIf (tOrW (tVal (w2 (opEq true) (oPk 5) (oVal (wN zfo (zag (oFz (wVar 10)) (zag (oFz (wVar 13)) (zag (oFz (wVar 12)) (aNil)))))))) (tOrW (tTru (oVal (wN ziY (zag (oVal (w2 opIx (oPk 5) (oVal (wC (.int 2))))) (zag (oVal (wC (.ty "bool"))) (aNil)))))) (tVal (w2 (opEq true) (oPk 9) (oPk 8)))))
 (sRet (oVal (wC (.bl false))))
 (sNx)
def za9:WS:=sSeq (zb1) (sSeq (za4) (sSeq (zaJ) (sSeq (zax) (zaj))))
def zai:WS:=sFor (iSeq (wN zcd (zag (oFz (wVar 6)) (zag (oFz (wVar 7)) (aNil))))) (.nm 8)
 (za9)
def zbp:WS:=sSeq (zb7) (sSeq (zbb) (sSeq (zaM) (sSeq (zaA) (sSeq (zar) (zai)))))
def zbt:WS:=sFor (iR3 (oVal (wC (.int 0))) (oVal (wN (opMx imax) (zag (oVal (wC (.int 1))) (zag (oVal (wN zdr (zag (oPk 0) (aNil)))) (aNil))))) (oVal (wC (.int 2)))) (.nm 1)
 (zbp)
def zau:WS:=sRet (oVal (wC (.bl true)))
def zbA:WS:=sSeq (zbt) (zau)
abbrev zak:Type:=Bool
def zaP (d_2:D) (s_2:Unit) (K:(Unit)->R (zak)):R (zak) :=
 R.bind (nIx d_2 (.int 0)) λt_5 =>
 R.bind (nIx d_2 (.int 1)) λt_6 =>
 R.bind (zeg t_5 t_6) λt_7 =>
 R.bind (nIsi "str" t_7) λt_8 =>
 R.bind (orB (!t_8) (R.bind (zdy d_2) λt_9=>nEq true t_7 t_9)) λc_1 =>
 if c_1=true then
 .ok false
 else
 K ()
def zaQ (d_4:D) (s_4:Unit) (K:(Unit)->R (zak)):R (zak) :=
 R.bind (zsI d_4) λt_18 =>
 R.bind (zcm d_4) λt_19 =>
 R.bind (nUn3 t_19) λp_1 =>
 R.bind (zck (.lst t_18)) λt_20 =>
 R.bind (nIs true p_1.2.1 (.non)) λt_21 =>
 R.bind (if t_21=true then (R.bind (nR1 (.int 9)) λds_4=>R.bind (lcM (λd_5:D=>R.bind (nEq false d_5 p_1.2.1) λt_22=>.ok ((.bl t_22))) ds_4) λxs_2=>zcf (.lst xs_2) (.lst [.bl true]):R (List D)) else .ok (([]:List D))) λt_24 =>
 R.bind (nEq true t_20 (.tup [p_1.1,(.lst t_24),p_1.2.2])) λt_25 =>
 R.bind (orB t_25 (R.bind (nIx t_20 (.int 2)) λt_26=>R.bind (nIsi "bool" t_26) λt_27=>orB t_27 (nEq true (.lst t_18) d_4))) λc_3 =>
 if c_3=true then
 .ok false
 else
 K ()
def zaR (script_1:D) (d_1:D) (s_1:Unit) (K:(Unit)->R (zak)):R (zak) :=
 R.bind (zd2 script_1 d_1) λt_3 =>
 R.bind (zfI t_3) λt_4 =>
 R.bind (zbf t_4.1) λds_2 =>
 R.forN (zaP) (λ(s_3:Unit) =>
 R.bind (nLen t_4.1) λt_11 =>
 R.bind (zfJ t_4.2 t_11) λt_12 =>
 R.bind (lcM (λd_3:D=>R.bind (nIx t_4.1 d_3) λt_13=>zdy t_13) t_12.1) λxs_1 =>
 R.bind (nAdd d_1 (.int 1)) λt_15 =>
 R.bind (zd2 script_1 t_15.d) λt_16 =>
 R.bind (zcI t_16 (.lst xs_1)) λt_17 =>
 R.bind (zbf (.lst [(.lst xs_1),t_17.1.d])) λds_3 =>
 R.forN (zaQ) (λ(s_5:Unit) =>
 K ()) ds_3 ()) ds_2 ()
@[irreducible] def zay (script_1:D):R (zak) :=
  R.bind (nLen script_1) λt_1 =>
  R.bind (nMx imax (.int 1) t_1) λt_2 =>
  R.bind (nR3 (.int 0) t_2 (.int 2)) λds_1 =>
  R.forN (zaR script_1) (λ(s_6:Unit) =>
  .ok true) ds_1 ()
abbrev sp_law222222222222222222222222222222 (ms:List M) (Q:M->En->Prop) (X:Xn->Prop):Prop:=∃ (script_1:D),ms=[(.fz script_1)]/\(zay script_1).post (λr=>Q (M.fz (.bl r)) [none]) X
abbrev zcX:Fn:=⟨1,[],sp_law222222222222222222222222222222⟩
theorem zcY (ms:List M) (Q:M->En->Prop) (X:Xn->Prop) (h:sp_law222222222222222222222222222222 ms Q X):wFn 15 1 [] zbA ms Q X:=by
 obtain ⟨script_1,rfl,h⟩:=h
 unfold zay at h
 refine zcF (e0:=[some (.fz script_1),none,none,none,none,none,none,none,none,none,none,none,none,none,none]) rfl λE hrt hnx hx => ?_
 show (sSeq zbt (zau)) _ _
 refine zaz @(zk2 @(k_ir3 @(zad @(k_c @(zad @(k_wN @(k_ac @(zad @(k_c @(k_ac @(zad @(k_wN @(k_ac @(k_pk rfl @(k_an @(zcD rfl @(zat @(zdY h λt_1 h=>k_an @(zap @(zap @(zat @(k_mx h λt_2 h=>zad @(k_c @(k_wv @(k_wv @(k_wv @(k_r3 h λds_1 h=>zi6 (λ(s_1:Unit) (j_1:Option M×Option M×Option M×Option M×Option M×Option M×Option M×Option M×Option M×Option M×Option M×Option M×Option M)=>[some (.fz script_1),j_1.1,j_1.2.1,j_1.2.2.1,j_1.2.2.2.1,j_1.2.2.2.2.1,j_1.2.2.2.2.2.1,j_1.2.2.2.2.2.2.1,j_1.2.2.2.2.2.2.2.1,j_1.2.2.2.2.2.2.2.2.1,j_1.2.2.2.2.2.2.2.2.2.1,j_1.2.2.2.2.2.2.2.2.2.2.1,j_1.2.2.2.2.2.2.2.2.2.2.2.1,j_1.2.2.2.2.2.2.2.2.2.2.2.2,none]) ?_ ?_ _ () (none,none,none,none,none,none,none,none,none,none,none,none,none) h)))))))))))))))))))))))))))
 ·intro d_1 s_1 j_1 N K hn h
  refine g_nm (?_)
  show zbp _ [some (.fz script_1),some (.fz d_1),j_1.2.1,j_1.2.2.1,j_1.2.2.2.1,j_1.2.2.2.2.1,j_1.2.2.2.2.2.1,j_1.2.2.2.2.2.2.1,j_1.2.2.2.2.2.2.2.1,j_1.2.2.2.2.2.2.2.2.1,j_1.2.2.2.2.2.2.2.2.2.1,j_1.2.2.2.2.2.2.2.2.2.2.1,j_1.2.2.2.2.2.2.2.2.2.2.2.1,j_1.2.2.2.2.2.2.2.2.2.2.2.2,none]
  refine zaz @(zaT @(zaI (fn:=zd3) @(k_ac @(k_fz @(zaC rfl @(k_ac @(k_fz @(zaC rfl @(k_an @(za7 @(za7 @(zbh ⟨rfl,_,_,rfl,zaL h (λt_3 h => ?_) (λx z=>hx x _ z)⟩))))))))))))
  show (sSeq zbb (sSeq zaM (sSeq zaA (sSeq zar (zai))))) _ [some (.fz script_1),some (.fz d_1),some (.lst t_3),j_1.2.2.1,j_1.2.2.2.1,j_1.2.2.2.2.1,j_1.2.2.2.2.2.1,j_1.2.2.2.2.2.2.1,j_1.2.2.2.2.2.2.2.1,j_1.2.2.2.2.2.2.2.2.1,j_1.2.2.2.2.2.2.2.2.2.1,j_1.2.2.2.2.2.2.2.2.2.2.1,j_1.2.2.2.2.2.2.2.2.2.2.2.1,j_1.2.2.2.2.2.2.2.2.2.2.2.2,none]
  refine zaz @(zaT @(zaI (fn:=zgZ) @(k_ac @(k_pk rfl @(k_an @(zcE rfl @(zbh ⟨rfl,_,rfl,zaL h (λt_4 h => ?_) (λx z=>hx x _ z)⟩)))))))
  show (sSeq zaM (sSeq zaA (sSeq zar (zai)))) _ [some (.fz script_1),some (.fz d_1),some (.lst t_4.2),some (.fz t_4.1),j_1.2.2.2.1,j_1.2.2.2.2.1,j_1.2.2.2.2.2.1,j_1.2.2.2.2.2.2.1,j_1.2.2.2.2.2.2.2.1,j_1.2.2.2.2.2.2.2.2.1,j_1.2.2.2.2.2.2.2.2.2.1,j_1.2.2.2.2.2.2.2.2.2.2.1,j_1.2.2.2.2.2.2.2.2.2.2.2.1,j_1.2.2.2.2.2.2.2.2.2.2.2.2,none]
  refine zaz @(zk2 @(zdJ @(zaC rfl @(zda h λds_2 h=>zi6 (λ(s_2:Unit) (j_2:Option M×Option M)=>[some (.fz script_1),some (.fz d_1),some (.lst t_4.2),some (.fz t_4.1),j_2.1,j_2.2,j_1.2.2.2.2.2.1,j_1.2.2.2.2.2.2.1,j_1.2.2.2.2.2.2.2.1,j_1.2.2.2.2.2.2.2.2.1,j_1.2.2.2.2.2.2.2.2.2.1,j_1.2.2.2.2.2.2.2.2.2.2.1,j_1.2.2.2.2.2.2.2.2.2.2.2.1,j_1.2.2.2.2.2.2.2.2.2.2.2.2,none]) ?_ ?_ _ () (j_1.2.2.2.1,j_1.2.2.2.2.1) h))))
  ·intro d_2 s_2 j_2 N K hn h
   refine g_nm (?_)
   show za8 _ [some (.fz script_1),some (.fz d_1),some (.lst t_4.2),some (.fz t_4.1),some (.fz d_2),j_2.2,j_1.2.2.2.2.2.1,j_1.2.2.2.2.2.2.1,j_1.2.2.2.2.2.2.2.1,j_1.2.2.2.2.2.2.2.2.1,j_1.2.2.2.2.2.2.2.2.2.1,j_1.2.2.2.2.2.2.2.2.2.2.1,j_1.2.2.2.2.2.2.2.2.2.2.2.1,j_1.2.2.2.2.2.2.2.2.2.2.2.2,none]
   refine zaz @(zaT @(zaI (fn:=zfb) @(k_ac @(k_fz @(k_w2 @(k_pk rfl @(zad @(k_c @(k_wp rfl @(k_wv @(k_ix h λt_5 h=>k_ac @(k_fz @(k_w2 @(k_pk rfl @(zad @(k_c @(k_wp rfl @(k_wv @(k_ix h λt_6 h=>k_an @(za7 @(za7 @(zbh ⟨rfl,_,_,rfl,zaL h (λt_7 h => ?_) (λx z=>hx x _ z)⟩))))))))))))))))))))))
   try with_reducible show zaw _ _
   show zaw _ [some (.fz script_1),some (.fz d_1),some (.lst t_4.2),some (.fz t_4.1),some (.fz d_2),some (.fz t_7),j_1.2.2.2.2.2.1,j_1.2.2.2.2.2.2.1,j_1.2.2.2.2.2.2.2.1,j_1.2.2.2.2.2.2.2.2.1,j_1.2.2.2.2.2.2.2.2.2.1,j_1.2.2.2.2.2.2.2.2.2.2.1,j_1.2.2.2.2.2.2.2.2.2.2.2.1,j_1.2.2.2.2.2.2.2.2.2.2.2.2,none]
   refine zdQ @(zfv @(zc1 @(zea @(zad @(k_wN @(k_ac @(k_pk rfl @(k_ac @(zad @(k_c @(k_an @(zcD rfl @(zap @(zat @(zlX h λt_8 h=>k_wv @(zec @(zfw (λ(v:Bool)=>v) (λ(v:Bool)=>[some (.fz script_1),some (.fz d_1),some (.lst t_4.2),some (.fz t_4.1),some (.fz d_2),some (.fz t_7),j_1.2.2.2.2.2.1,j_1.2.2.2.2.2.2.1,j_1.2.2.2.2.2.2.2.1,j_1.2.2.2.2.2.2.2.2.1,j_1.2.2.2.2.2.2.2.2.2.1,j_1.2.2.2.2.2.2.2.2.2.2.1,j_1.2.2.2.2.2.2.2.2.2.2.2.1,j_1.2.2.2.2.2.2.2.2.2.2.2.2,none]) h (λJ26 h=>J26 true h) (λJ26 h=>zbg @(k_w2 @(k_pk rfl @(zad @(zaI (fn:=zd4) @(k_ac @(k_fz @(zaC rfl @(k_an @(za7 @(zbh ⟨rfl,_,rfl,zaL (asc h) (λt_9 h=>k_wp rfl @(k_wv @(k_eq h λt_10 h=>j_tv (J26 t_10 h)))) (λx z=>hx x _ z)⟩))))))))))) (λc_1 h=>zeb h (λh => ?_) (λh => ?_)))))))))))))))))))
   ·refine za2 @(k_c (hrt _ _ h))
   ·refine k_nx ?_
    exact hn () ((some (.fz d_2)),(some (.fz t_7))) h
  ·intro s_3 j_3 h
   show (sSeq zaA (sSeq zar (zai))) _ [some (.fz script_1),some (.fz d_1),some (.lst t_4.2),some (.fz t_4.1),j_3.1,j_3.2,j_1.2.2.2.2.2.1,j_1.2.2.2.2.2.2.1,j_1.2.2.2.2.2.2.2.1,j_1.2.2.2.2.2.2.2.2.1,j_1.2.2.2.2.2.2.2.2.2.1,j_1.2.2.2.2.2.2.2.2.2.2.1,j_1.2.2.2.2.2.2.2.2.2.2.2.1,j_1.2.2.2.2.2.2.2.2.2.2.2.2,none]
   refine zaz @(zaT @(k_lc @(zdJ @(zaI (fn:=zg0) @(k_ac @(k_pk rfl @(k_ac @(k_fz @(k_wN @(k_ac @(k_pk rfl @(k_an @(zcD rfl @(zat @(zdY h λt_11 h=>k_an @(zcE rfl @(za7 @(zbh ⟨rfl,_,_,rfl,zaL h (λt_12 h=>zvs rfl @(zi8 h (λd_3 S KK hk h=>g_nm @(zaI (fn:=zd4) @(k_ac @(k_fz @(k_w2 @(k_pk rfl @(k_pk rfl @(k_wp rfl @(k_wp rfl @(k_ix h λt_13 h=>k_an @(za7 @(zbh ⟨rfl,_,rfl,zaL (tl h) (λt_14 h=>hk _ _ rfl h) (λ_ z=>z.elim)⟩)))))))))))) λxs_1 h => ?_)) (λx z=>hx x _ z)⟩))))))))))))))))))
   show (sSeq zar (zai)) _ [some (.fz script_1),some (.fz d_1),some (.lst t_12.2),some (.fz t_4.1),j_3.1,j_3.2,some (.lst xs_1),j_1.2.2.2.2.2.2.1,j_1.2.2.2.2.2.2.2.1,j_1.2.2.2.2.2.2.2.2.1,j_1.2.2.2.2.2.2.2.2.2.1,j_1.2.2.2.2.2.2.2.2.2.2.1,j_1.2.2.2.2.2.2.2.2.2.2.2.1,j_1.2.2.2.2.2.2.2.2.2.2.2.2,none]
   refine zaz @(zaT @(zaI (fn:=zdE) @(k_ac @(zad @(zaI (fn:=zd3) @(k_ac @(k_fz @(zaC rfl @(k_ac @(k_fz @(k_w2 @(k_pk rfl @(zad @(k_c @(k_wp rfl @(k_wv @(zbJ h λt_15 h=>k_an @(za7 @(za7 @(zbh ⟨rfl,_,_,rfl,zaL h (λt_16 h=>k_ac @(k_fz @(zi4 rfl @(k_an @(za7 @(za7 @(zbh ⟨rfl,_,_,rfl,zaL h (λt_17 h => ?_) (λx z=>hx x _ z)⟩))))))) (λx z=>hx x _ z)⟩))))))))))))))))))))
   try with_reducible show zai _ _
   show zai _ [some (.fz script_1),some (.fz d_1),some (.lst t_12.2),some (.fz t_4.1),j_3.1,j_3.2,some (.fz (.lst xs_1)),some t_17.1,j_1.2.2.2.2.2.2.2.1,j_1.2.2.2.2.2.2.2.2.1,j_1.2.2.2.2.2.2.2.2.2.1,j_1.2.2.2.2.2.2.2.2.2.2.1,j_1.2.2.2.2.2.2.2.2.2.2.2.1,j_1.2.2.2.2.2.2.2.2.2.2.2.2,none]
   refine k_forX λQI hQI=>zdJ @(zjT (λQ hq=>k_wN @(k_ac @(k_fz @(zaC rfl @(k_ac @(k_fz @(zi4 rfl @(k_an @(zap @(zap @(zat @(zdb rfl rfl hq)))))))))))) @(zda h λds_3 h=>hQI _ _ @(zi6 (λ(s_4:Unit) (j_4:Option M×Option M×Option M×Option M×Option M×Option M×Option M)=>[some (.fz script_1),some (.fz d_1),some (.lst t_12.2),some (.fz t_4.1),j_3.1,j_4.1,some (.fz (.lst xs_1)),some (.fz t_17.1.d),j_4.2.1,j_4.2.2.1,j_4.2.2.2.1,j_4.2.2.2.2.1,j_4.2.2.2.2.2.1,j_4.2.2.2.2.2.2,none]) ?_ ?_ _ () (j_3.2,j_1.2.2.2.2.2.2.2.1,j_1.2.2.2.2.2.2.2.2.1,j_1.2.2.2.2.2.2.2.2.2.1,j_1.2.2.2.2.2.2.2.2.2.2.1,j_1.2.2.2.2.2.2.2.2.2.2.2.1,j_1.2.2.2.2.2.2.2.2.2.2.2.2) h)))
   ·intro d_4 s_4 j_4 N K hn h
    refine g_nm (?_)
    show za9 _ [some (.fz script_1),some (.fz d_1),some (.lst t_12.2),some (.fz t_4.1),j_3.1,j_4.1,some (.fz (.lst xs_1)),some (.fz t_17.1.d),some (.fz d_4),j_4.2.2.1,j_4.2.2.2.1,j_4.2.2.2.2.1,j_4.2.2.2.2.2.1,j_4.2.2.2.2.2.2,none]
    refine zaz @(zaT @(k_wN @(k_ac @(k_pk rfl @(k_an @(zcD rfl @(zat @(k_list h λt_18 h => ?_))))))))
    show (sSeq za4 (sSeq zaJ (sSeq zax (zaj)))) _ [some (.fz script_1),some (.fz d_1),some (.lst t_12.2),some (.fz t_4.1),j_3.1,j_4.1,some (.fz (.lst xs_1)),some (.fz t_17.1.d),some (.fz d_4),some (.lst t_18),j_4.2.2.2.1,j_4.2.2.2.2.1,j_4.2.2.2.2.2.1,j_4.2.2.2.2.2.2,none]
    refine zaz @(k_asg @(zaI (fn:=zdi) @(k_ac @(k_fz @(zaC rfl @(k_an @(za7 @(zbh ⟨rfl,_,rfl,zaL h (λt_19 h=>g_un3P h λp_1 h=>zi5 @(g_nm @(zi5 @(g_nm @(zi5 @(g_nm @(zvf (?_)))))))) (λx z=>hx x _ z)⟩))))))))
    show (sSeq zaJ (sSeq zax (zaj))) _ [some (.fz script_1),some (.fz d_1),some (.lst t_12.2),some (.fz t_4.1),j_3.1,j_4.1,some (.fz (.lst xs_1)),some (.fz t_17.1.d),some (.fz d_4),some (.lst t_18),some (.fz p_1.1),some (.fz p_1.2.1),some (.fz p_1.2.2),j_4.2.2.2.2.2.2,none]
    refine zaz @(zaT @(zaI (fn:=zdg) @(k_ac @(k_fz @(zi4 rfl @(k_an @(za7 @(zbh ⟨rfl,_,rfl,zaL h (λt_20 h => ?_) (λx z=>hx x _ z)⟩))))))))
    show (sSeq zax (zaj)) _ [some (.fz script_1),some (.fz d_1),some (.lst t_12.2),some (.fz t_4.1),j_3.1,some (.fz t_20),some (.fz (.lst xs_1)),some (.fz t_17.1.d),some (.fz d_4),some (.fz (.lst t_18)),some (.fz p_1.1),some (.fz p_1.2.1),some (.fz p_1.2.2),j_4.2.2.2.2.2.2,none]
    refine zaz @(zaT @(zvd @(zbg @(k_w2 @(k_pk rfl @(zad @(k_c @(k_wp rfl @(k_wv @(k_is h λt_21 h=>j_tv @(zve (λ(v:List D)=>M.lst v) (λ(v:List D)=>[some (.fz script_1),some (.fz d_1),some (.lst t_12.2),some (.fz t_4.1),j_3.1,some (.fz t_20),some (.fz (.lst xs_1)),some (.fz t_17.1.d),some (.fz d_4),some (.fz (.lst t_18)),some (.fz p_1.1),some (.fz p_1.2.1),some (.fz p_1.2.2),j_4.2.2.2.2.2.2,none]) h (λJ35 h=>k_w2 @(zad @(k_lc @(zk1 @(zad @(k_c @(k_wv @(k_r1 (asc h) λds_4 h=>zi8 (asc h) (λd_5 S KK hk h=>g_nm @(k_w2 @(k_pk rfl @(k_pk rfl @(k_wp rfl @(k_wp rfl @(k_eq h λt_22 h=>hk _ _ rfl h))))))) λxs_2 h=>zad @(k_kl @(k_wv @(k_wv @(zdk h λt_23 h=>J35 t_23 h)))))))))))) (λJ35 h=>k_wN @(k_an @(zat @(zdb rfl rfl (J35 ([]:List D) h))))) (λt_24 h => ?_))))))))))))
    try with_reducible show zaj _ _
    show zaj _ [some (.fz script_1),some (.fz d_1),some (.lst t_12.2),some (.fz t_4.1),j_3.1,some (.fz t_20),some (.fz (.lst xs_1)),some (.fz t_17.1.d),some (.fz d_4),some (.fz (.lst t_18)),some (.fz p_1.1),some (.fz p_1.2.1),some (.fz p_1.2.2),some (.lst t_24),none]
    refine zdQ @(zfv @(zbg @(k_w2 @(k_pk rfl @(zad @(zjT (λQ hq=>k_wN @(k_ac @(k_fz @(zaC rfl @(k_ac @(k_fz @(zi4 rfl @(k_ac @(k_fz @(zaC rfl @(k_an @(zap @(zap @(zap @(zat @(zgS rfl rfl hq)))))))))))))))) @(k_wp rfl @(k_wv @(k_eq h λt_25 h=>j_tv @(zfw (λ(v:Bool)=>v) (λ(v:Bool)=>[some (.fz script_1),some (.fz d_1),some (.lst t_12.2),some (.fz t_4.1),j_3.1,some (.fz t_20),some (.fz (.lst xs_1)),some (.fz t_17.1.d),some (.fz d_4),some (.fz (.lst t_18)),some (.fz p_1.1),some (.fz p_1.2.1),some (.fz p_1.2.2),some (.fz (.lst t_24)),none]) h (λJ33 h=>J33 true h) (λJ33 h=>zfv @(zea @(zad @(k_wN @(k_ac @(zad @(k_w2 @(k_pk rfl @(zad @(k_c @(k_wp rfl @(k_wv @(k_ix (asc h) λt_26 h=>k_ac @(zad @(k_c @(k_an @(zap @(zap @(zat @(zlX (asc h) λt_27 h=>k_wv @(zec @(zfw (λ(v:Bool)=>v) (λ(v:Bool)=>[some (.fz script_1),some (.fz d_1),some (.lst t_12.2),some (.fz t_4.1),j_3.1,some (.fz t_20),some (.fz (.lst xs_1)),some (.fz t_17.1.d),some (.fz d_4),some (.fz (.lst t_18)),some (.fz p_1.1),some (.fz p_1.2.1),some (.fz p_1.2.2),some (.fz (.lst t_24)),none]) h (λJ34 h=>J34 true h) (λJ34 h=>zbg @(k_w2 @(k_pk rfl @(k_pk rfl @(k_wp rfl @(k_wp rfl @(k_eq h λt_28 h=>j_tv (J34 t_28 h)))))))) (λc_2 h=>J33 c_2 h))))))))))))))))))))))) (λc_3 h=>zeb h (λh => ?_) (λh => ?_))))))))))))
    ·refine za2 @(k_c (hrt _ _ h))
    ·refine k_nx ?_
     exact hn () ((some (.fz t_20)),(some (.fz d_4)),(some (.fz (.lst t_18))),(some (.fz p_1.1)),(some (.fz p_1.2.1)),(some (.fz p_1.2.2)),(some (.fz (.lst t_24)))) h
   ·intro s_5 j_5 h
    exact hn () ((some (.fz d_1)),(some (.lst t_12.2)),(some (.fz t_4.1)),j_3.1,j_5.1,(some (.fz (.lst xs_1))),(some (.fz t_17.1.d)),j_5.2.1,j_5.2.2.1,j_5.2.2.2.1,j_5.2.2.2.2.1,j_5.2.2.2.2.2.1,j_5.2.2.2.2.2.2) h
 ·intro s_6 j_6 h
  try with_reducible show zau _ _
  show zau _ [some (.fz script_1),j_6.1,j_6.2.1,j_6.2.2.1,j_6.2.2.2.1,j_6.2.2.2.2.1,j_6.2.2.2.2.2.1,j_6.2.2.2.2.2.2.1,j_6.2.2.2.2.2.2.2.1,j_6.2.2.2.2.2.2.2.2.1,j_6.2.2.2.2.2.2.2.2.2.1,j_6.2.2.2.2.2.2.2.2.2.2.1,j_6.2.2.2.2.2.2.2.2.2.2.2.1,j_6.2.2.2.2.2.2.2.2.2.2.2.2,none]
  refine za2 @(k_c (hrt _ _ h))
@[simp] theorem fz_d (d:D):(M.fz d).d=d:=ybf rfl rfl
theorem zcn:sizeLine=16777216:=sizeLine_eq
theorem zaV {α:Type} {c:Bool} {r:R α} (h:c=true):need c r=r:=by rw [h]; rfl
theorem zdX {a b:Nat} (h:a<=b):Nat.ble a b=true:=Nat.ble_eq_true_of_le h
@[simp] theorem zdA (i j:Int):nAdd (.int i) (.int j)=.ok (.fz (.int (i+j))):=ybf rfl rfl
@[simp] theorem zq5 (i j:Int):nSub (.int i) (.int j)=.ok (.int (i-j)):=ybf rfl rfl
@[simp] theorem nNeg_i (i:Int):nNeg (.int i)=.ok (.int (-i)):=ybf rfl rfl
theorem zgE {i j:Int} (h:0<j):nMod (.int i) (.int j)=.ok (.int (i % j)):=zaV (yaj h)
theorem zom {i j:Int} (h:-(2 ^ 64)<j) (h':j<2 ^ 64):nMul (.int i) (.int j)=.ok (.fz (.int (i*j))):=zaV (yaj (.inr ⟨h,h'⟩:CMul i j))
theorem zq6 {i j:Int} (h:-(2 ^ 64)<i) (h':i<2 ^ 64):nMul (.int i) (.int j)=.ok (.fz (.int (i*j))):=zaV (yaj (.inl ⟨h,h'⟩:CMul i j))
theorem zvN {i j:Int} (h:CPow i j):nPow (.int i) (.int j)=.ok (.int (i ^ j.toNat)):=zaV (yaj h)
@[simp] theorem nInt_i (i:Int):nInt (.int i)=.ok i:=ybf rfl rfl
theorem zjy {s t:Str} (h:s.length+t.length<=sizeLine):nAdd (.str s) (.str t)=.ok (.fz (.str (s++t))):=zaV (zdX h)
theorem zq7 {s t:List D} (h:s.length+t.length<=sizeLine):nAdd (.lst s) (.lst t)=.ok (.lst (s++t)):=zaV (zdX h)
theorem znr {ds:List D} {d:D} (h:ds.length<16777216):nApp ds d=.ok (ds++[d]):=zaV (yaj h)
theorem zvO {ds es:List D} (h:ds.length+es.length<=16777216):nExt ds (.lst es)=.ok (ds++es):=zaV (yaj h)
@[simp] theorem zfg (ds:List D):nLen (.tup ds)=.ok (.int ds.length):=ybf rfl rfl
@[simp] theorem zeB (ds:List D):nLen (.lst ds)=.ok (.int ds.length):=ybf rfl rfl
@[simp] theorem zon (ds:List Int):nLen (.scr ds)=.ok (.int ds.length):=ybf rfl rfl
theorem zg6 {s:Str} (h:s.length<=sizeLine):nLen (.str s)=.ok (.int s.length):=zaV (zdX h)
@[simp] theorem zeU (ds:List D):zbf (.tup ds)=.ok ds:=ybf rfl rfl
@[simp] theorem zpc (ds:List D):zbf (.lst ds)=.ok ds:=ybf rfl rfl
@[simp] theorem zhK (s:Str):zbf (.str s)=.ok (s.cps.toList.map sgn):=ybf rfl rfl
@[simp] theorem zpd (ds:List D):zcC (.lst ds)=.ok (.tup ds):=ybf rfl rfl
@[simp] theorem zq8 (ds:List D):zsI (.lst ds)=.ok ds:=ybf rfl rfl
@[simp] theorem zhL (ds:List D) (lo hi:Option Int):nSl (.lst ds) lo hi=.ok (.lst (cutD ds lo hi)):=ybf rfl rfl
theorem zeI {s:Str} {lo hi:Option Int} (h:s.length<=sizeLine):nSl (.str s) lo hi=.ok (.fz (.str (cutS s lo hi))):=zaV (zdX h)
theorem zlh {ds:List D} {i:Int} {d:D} (h:atI ds i=some d):nIx (.tup ds) (.int i)=.ok d:=by
 show (ofO (some i)).bind (λi=>ofO (atI ds i))=_
 show ofO (atI ds i)=_
 rw [h]
 rfl
theorem zfT {ds:List D} {i:Int} {d:D} (h:atI ds i=some d):nIx (.lst ds) (.int i)=.ok d:=by
 show ofO (atI ds i)=_
 rw [h]
 rfl
theorem zvP {ds:List Int} {i:Int} {d:Int} (h:atI ds i=some d):nIx (.scr ds) (.int i)=.ok (.int d):=by
 show (ofO (atI ds i)).bind _=_
 rw [h]
 rfl
theorem zhM {s:Str} {i:Int} {c:Nat} (h:atI s.cps.toList i=some c) (hl:s.length<=sizeLine):nIx (.str s) (.int i)=.ok (sgn c):=by
 show (ofO (atI s.cps.toList i)).bind _=_
 rw [h]
 exact zaV (zdX hl)
theorem nIx_dT {kvs:List (List Key×D)} {k:D} {y:List Key} {d:D} (h:keyT k=some y) (h':getK kvs y=some d):nIx (.dT kvs) k=.ok d:=by
 show (ofO (keyT k)).bind _=_
 rw [h]
 show ofO (getK kvs y)=_
 rw [h']
 rfl
theorem atI_2 {α:Type} (a b c:α) (l:List α):atI (a::b::c::l) 2=some c:=atI_nat (j:=2) rfl
@[simp] theorem zjz (a:D) (l:List D):nIx (.tup (a::l)) (.int 0)=.ok a:=zlh (atI_0 _ _)
@[simp] theorem zjA (a b:D) (l:List D):nIx (.tup (a::b::l)) (.int 1)=.ok b:=zlh (atI_1 _ _ _)
@[simp] theorem zoo (a b c:D) (l:List D):nIx (.tup (a::b::c::l)) (.int 2)=.ok c:=zlh (atI_2 _ _ _ _)
@[simp] theorem zh8 (a:D) (l:List D):nIx (.lst (a::l)) (.int 0)=.ok a:=zfT (atI_0 _ _)
@[simp] theorem zq9 (a b:D) (l:List D):nIx (.lst (a::b::l)) (.int 1)=.ok b:=zfT (atI_1 _ _ _)
@[simp] theorem nStL_0 (a d:D) (l:List D):nStL (a::l) (.int 0) d=.ok (d::l):=by
  have e:ixN (a::l).length 0=some 0:=by
   unfold ixN
   simp
  show (ofO (ixN (a::l).length 0)).bind _=_
  rw [e]
  rfl
@[simp] theorem zjB (neg:Bool) (i j:Int):nEq neg (.int i) (.int j)=.ok (if neg=true then !decide (i=j) else decide (i=j)):=by
  show need true (R.ok (if neg=true then !eqD (.int i) (.int j) else eqD (.int i) (.int j)))=_
  rw [zu8]
  rfl
@[simp] theorem zra (neg:Bool) (i j:Str):nEq neg (.str i) (.str j)=.ok (if neg=true then !decide (i=j) else decide (i=j)):=by
  show need true (R.ok (if neg=true then !eqD (.str i) (.str j) else eqD (.str i) (.str j)))=_
  rw [zu7]
  rfl
theorem nE_ii (i j:Int):nEq false (.int i) (.int j)=.ok (decide (i=j)):=zjB false i j
theorem zs1 (i j:Int):nEq true (.int i) (.int j)=.ok (!decide (i=j)):=zjB true i j
theorem nE_ss (i j:Str):nEq false (.str i) (.str j)=.ok (decide (i=j)):=zra false i j
theorem zvQ (i j:Str):nEq true (.str i) (.str j)=.ok (!decide (i=j)):=zra true i j
theorem zvR {a b:D} (h:eqOk a b=true):nEq true a b=.ok (!eqD a b):=zaV h
theorem nEq_of {neg:Bool} {a b:D} (h:eqOk a b=true):nEq neg a b=.ok (if neg=true then !eqD a b else eqD a b):=zaV h
@[simp] theorem zdV (o:Od) (i j:Int):nOrd o (.int i) (.int j)=.ok (o.int i j):=ybf rfl rfl
@[simp] theorem zvS (s t:Str):nOrd .lt (.str s) (.str t)=.ok (ltS s t):=ybf rfl rfl
@[simp] theorem zvT (i j:Int):Od.lt.int i j=decide (i<j):=ybf rfl rfl
@[simp] theorem zpe (i j:Int):Od.le.int i j=decide (i<=j):=ybf rfl rfl
@[simp] theorem od_ge (i j:Int):Od.ge.int i j=decide (j<=i):=ybf rfl rfl
theorem zvU {T t:String} {d:D} (h:tyNm d=some t) (hT:zql.contains T=true):nIsi T d=.ok (isiB t T):=by
 unfold nIsi
 rw [h]
 exact zaV hT
def zli:D->Bool
 | .tup _=>true
 | _=>false
def zs2:D->Bool
 | .str _=>true
 | _=>false
section
variable {n:Nat} {d:D}
theorem zug {T:String} {f:D->Bool} (hT:zql.contains T=true) (hf:∀ d t,tyNm d=some t->isiB t T=f d) (h:Sm n d):nIsi T d=.ok (f d):=by
 obtain ⟨t,e⟩:=h.ty
 rw [zvU e hT,hf d t e]
theorem zg7 (h:Sm n d):nIsi "tuple" d=.ok (zli d):=zug (by decide +kernel) (λd t e=>by cases d<;>cases e<;>simp [isiB,zli]) h
theorem zrb (h:Sm n d):nIsi "str" d=.ok (zs2 d):=zug (by decide +kernel) (λd t e=>by cases d<;>cases e<;>simp [isiB,zs2]) h
end
theorem zvV {i:Int} (h:0<=i) (h':i<1000000000):rngB i:=⟨by omega,by omega⟩
theorem zms {i:Int} (h:0<=i) (h':i<1000000000):nR1 (.int i)=.ok (rngD 0 i.toNat):=by
 have e:rngB i:=⟨by omega,by omega⟩
 unfold nR1
 simp only [intD,ofO,R.bind]
 exact zaV (yaj e)
theorem zmt (n:Nat):rngD 0 n=(List.range n).map λ(k:Nat)=>D.int k:=by
 unfold rngD
 refine List.map_congr_left λk _ => ?_
 rw [Int.zero_add]
theorem zf2 (i:Int) (n:Nat):(rngD i n).length=n:=by
 unfold rngD
 rw [yac,yaI]
theorem zop {i:Int} {n:Nat} {d:D} (h:d∈rngD i n):∃ k:Nat,k<n/\d=.int (i+k):=by
 unfold rngD at h
 obtain ⟨k,hk,rfl⟩:=yal.mp h
 exact ⟨k,yav.mp hk,rfl⟩
theorem zns {i:Int} {n k:Nat} {d:D} (h:(rngD i n)[k]?=some d):k<n/\d=.int (i+k):=by
 unfold rngD at h
 rw [yaA] at h
 by_cases hk:k<n
 ·rw [ybd hk] at h
  cases h
  exact ⟨hk,rfl⟩
 ·rw [yaY (by rw [yaI]; omega)] at h
  cases h
theorem zoq {f:D->R D} {g:D->D}:∀ {ds:List D},(∀ d∈ds,f d=.ok (g d))->lcM' f ds=.ok (ds.map g)
 | [],_=>rfl
 | d::ds,h=>by
   unfold lcM'
   rw [h d yaa,zoq λd hd=>h d (yab _ hd)]
   rfl
theorem zeJ {f:D->R D} {g:D->D} {ds:List D} (hl:ds.length<=sizeLine) (h:∀ d∈ds,f d=.ok (g d)):lcM f ds=.ok (ds.map g):=by
 unfold lcM
 rw [zaV (zdX hl),zoq h]
theorem zor {f:D->R (Option D)} {g:D->Option D}:∀ {ds:List D},(∀ d∈ds,f d=.ok (g d))->lcF' f ds=.ok (ds.filterMap g)
 | [],_=>rfl
 | d::ds,h=>by
   unfold lcF'
   rw [h d yaa,zor λd hd=>h d (yab _ hd),List.filterMap_cons]
   cases g d<;>rfl
theorem zvW {f:D->R (Option D)} {g:D->Option D} {ds:List D} (hl:ds.length<=sizeLine) (h:∀ d∈ds,f d=.ok (g d)):lcF f ds=.ok (ds.filterMap g):=by
 unfold lcF
 rw [zaV (zdX hl),zor h]
theorem zos {σ:Type} {f:D->σ->R (D×σ)} (I:σ->Prop) (A:D->Prop):∀ {ds:List D} {s:σ},I s->(∀ d∈ds,∀ s,I s->∃ x s',f d s=.ok (x,s')/\A x/\I s')->∃ xs s',lcS' f ds s=.ok (xs,s')/\xs.length=ds.length/\(∀ x∈xs,A x)/\I s'
 | [],s,hi,_=>⟨[],s,rfl,rfl,λ_ z=>absurd z yaF,hi⟩
 | d::ds,s,hi,h=>by
   obtain ⟨x,s1,e,ha,hi1⟩:=h d yaa s hi
   obtain ⟨xs,s2,e2,hl,hA,hi2⟩:=zos I A hi1 λd hd=>h d (yab _ hd)
   refine ⟨x::xs,s2,?_,yaX (· + 1) hl,λy hy => ?_,hi2⟩
   ·unfold lcS'
    rw [e]
    show (lcS' f ds s1).bind _=_
    rw [e2]
    rfl
   ·rcases yao.mp hy with rfl | hy
    ·exact ha
    ·exact hA y hy
theorem zvX {σ:Type} {f:D->σ->R (D×σ)} (I:σ->Prop) (A:D->Prop) {ds:List D} {s:σ} (hl:ds.length<=sizeLine) (hi:I s) (h:∀ d∈ds,∀ s,I s->∃ x s',f d s=.ok (x,s')/\A x/\I s'):∃ xs s',lcS f ds s=.ok (xs,s')/\xs.length=ds.length/\(∀ x∈xs,A x)/\I s':=by
 obtain ⟨xs,s',e,h⟩:=zos I A hi h
 refine ⟨xs,s',?_,h⟩
 unfold lcS
 rw [zaV (zdX hl),e]
theorem ziC {σ:Type} {body:D->σ->R σ} (I:Nat->σ->Prop):∀ {ds:List D} {s:σ} (k:Nat),I k s->(∀ j d s,ds[j]?=some d->I (k+j) s->∃ s',body d s=.ok s'/\I (k+j+1) s')->∃ s',forS body ds s=.ok s'/\I (k+ds.length) s'
 | [],s,k,hi,_=>⟨s,rfl,hi⟩
 | d::ds,s,k,hi,h=>by
   obtain ⟨s1,e,h1⟩:=h 0 d s rfl hi
   obtain ⟨s2,e2,h2⟩:=ziC I (ds:=ds) (s:=s1) (k+1) h1 λj d s hd hs=>by
    have:=h (j+1) d s (by simpa using hd) (by rw [show k+(j+1)=k+1+j by omega]; exact hs)
    rw [show k+(j+1)+1=k+1+j+1 by omega] at this
    exact this
   refine ⟨s2,?_,?_⟩
   ·unfold forS
    rw [e]
    exact e2
   ·rw [yaq,show k+(ds.length+1)=k+1+ds.length by omega]
    exact h2
theorem zlj {σ β:Type} {body:D->σ->(σ->R β)->R β} {after:σ->R β} {s:σ} {p:D->Bool} {r:R β}:∀ {ds:List D},(∀ d∈ds,∀ K,body d s K=if p d=true then K s else r)->forN body after ds s=if ds.all p=true then after s else r
 | [],_=>rfl
 | d::ds,h=>by
   unfold forN
   rw [h d yaa]
   cases hp:p d with
   | true =>
     rw [yaM rfl,zlj λd hd=>h d (yab _ hd),ybQ,hp,yaR]
   | false =>
     rw [yaH yat,ybQ,hp]
     rfl
end VW
namespace VW
open PySem PySem.Spec PyProof.Rows L2
def zbG:List Nat:=("abcdefghijklmnopqrstuvwxyz" : Str).cps.toList
def zaK (s:Str):Bool:=decide (1<=s.length)&&decide (s.length<=8)&&s.cps.toList.all λc=>decide (c∈zbG)
def zh9:D->Bool
 | .str s=>zaK s
 | _=>false
def zgh:D->Bool
 | .str s=>decide (s = "+")||decide (s = "-")
 | _=>false
def zia:D->Bool
 | .tup [a,b]=>zh9 a&&zgh b
 | _=>false
def znt:D->Bool
 | .tup ps=>decide (1<=ps.length)&&decide (ps.length<=4)&&ps.all zia
 | _=>false
def zgF:D->Bool
 | .tup [a,b]=>zh9 a&&znt b
 | _=>false
theorem zrc (z:Str):xorB false (inV (V.str z) [V.str "+",V.str "-"])=zgh (.str z):=by
 simp only [xorB,inV,zgh,ybP,List.any_nil,eqV,Bool.or_false,ya9,ych]
 have e:∀ a b:Str,(a==b)=decide (b=a):=λa b=>by
  rw [ybg,yct,yak]
  exact eq_comm
 rw [e,e]
def zaE:D->Str
 | .tup (.str n::_)=>n
 | _ => ""
def zg8:Str->List D->Bool
 | _,[]=>true
 | a,r::rs=>zgF r&&ltS a (zaE r)&&zg8 (zaE r) rs
def zrd:D->Bool
 | .tup rows=>decide (1<=rows.length)&&decide (rows.length<=8)&&zg8 "" rows
 | _=>false
theorem zlk {r:D} (h:zgF r=true):∃ n ps,r=.tup [.str n,.tup ps]/\zaK n=true:=by
 unfold zgF at h
 split at h
 ·rename_i a b
  rw [yap] at h
  obtain ⟨h1,h2⟩:=h
  unfold zh9 at h1
  split at h1
  ·unfold znt at h2
   split at h2
   ·exact ⟨_,_,rfl,h1⟩
   ·cases h2
  ·cases h1
 ·cases h
def zjC (s:Str):Str:=if s = "+" then "-" else "+"
theorem zpf (cs:List Nat):(Txt.join "" (cs.map λc=>(⟨#[c]⟩:Str))).cps.toList=cs:=by
 have glue:∀ (xs:List Str),(Txt.join "" xs).cps.toList=(xs.map λx=>x.cps.toList).flatten:=by
  intro xs
  have e1:Txt.join "" xs=Str.join "" xs:=StrLaws.glued_eq_join "" xs
  rw [e1]
  have e2:=TL.tl_join "" xs
  have e3:∀ l:List (List Nat),TL.joinL [] l=l.flatten:=by
   intro l
   induction l with
   | nil=>rfl
   | cons a l ih =>
     cases l with
     | nil=>simp [TL.joinL]
     | cons b l =>
       show a++([]++TL.joinL [] (b::l))=_
       rw [ih]
       rfl
  exact e2.trans (e3 _)
 rw [glue,yaK]
 induction cs with
 | nil=>rfl
 | cons c cs ih =>
   rw [yau,ybF,ih]
   rfl
theorem zre (cs:List Nat):((cs.map λc=>(⟨#[c]⟩:Str)).map (·.length)).sum=cs.length:=by
 induction cs with
 | nil=>rfl
 | cons c cs ih =>
   rw [yau,yau,yby,ih,yaq]
   show 1+cs.length=_
   omega
def l16:Str := "abcdefghijklmnop"
def L16:List Nat:=l16.cps.toList
theorem zll:L16.length=16:=by decide
theorem L16_nd:L16.Nodup:=by decide +kernel
theorem zuh:∀ c∈L16,c∈zbG/\c<0x110000:=λc hc=>by
 have:=yam.mp (show L16.all (λc=>decide (c∈zbG)&&decide (c<0x110000))=true by decide +kernel) c hc
 rw [yap,yak,yak] at this
 exact this
theorem L16_ix:∀ c∈L16,∃ i rest,Builtin.Str.occurrences l16 ⟨#[c]⟩ 0 l16.length 1=i::rest/\i<16/\L16[i]?=some c:=λc hc=>by
 have:=yam.mp (show L16.all (λc=>match Builtin.Str.occurrences l16 ⟨#[c]⟩ 0 l16.length 1 with
  | i::_=>decide (i<16)&&decide (L16[i]?=some c)
  | []=>false)=true by decide +kernel) c hc
 split at this
 ·rename_i i rest e
  rw [yap,yak,yak] at this
  exact ⟨i,rest,e,this.1,this.2⟩
 ·cases this
theorem zui {w:Str} {a:Int} (h:0<=a):(cutS w none (some a)).cps.toList=w.cps.toList.take a.toNat:=by
 unfold cutS HT.sIx
 have hn:w.length=w.cps.toList.length:=by rw [yaU]; rfl
 rw [ybL]
 dsimp only
 rw [yaH (by omega),hn,ycu,yb3,List.take_eq_take_iff]
 omega
theorem zlm {α:Type} {l:List α} (h:l.Nodup) {i j:Nat} (hi:i<l.length) (hj:j<l.length) (e:l[i]=l[j]):i=j:=by
 have p:=List.pairwise_iff_getElem.mp h
 rcases Nat.lt_trichotomy i j with z | z | z
 ·exact absurd e (p i j hi hj z)
 ·exact z
 ·exact absurd e.symm (p j i hj hi z)
theorem zot {w:Str} {a:Int} (h:0<=a):(cutS w (some a) none).cps.toList=w.cps.toList.drop a.toNat:=by
 unfold cutS HT.sIx
 have hn:w.length=w.cps.toList.length:=by rw [yaU]; rfl
 rw [ybL]
 dsimp only
 rw [yaH (by omega),hn]
 rcases Nat.le_total a.toNat w.cps.toList.length with l | l
 ·rw [Nat.min_eq_left l,List.take_of_length_le (by rw [ybJ]; exact yaw _)]
 ·rw [Nat.min_eq_right l,List.drop_of_length_le (yaw _),List.drop_of_length_le l,List.take_nil]
theorem zs3 {w:Str}:(cutS w none (some (-1))).cps.toList=w.cps.toList.dropLast:=by
 unfold cutS HT.sIx
 have hn:w.length=w.cps.toList.length:=by rw [yaU]; rfl
 rw [ybL]
 dsimp only
 rw [yaM (by decide),hn,ycu,yb3,List.dropLast_eq_take]
 congr 1
 omega
def Names (ns:List Str):Prop:=ns.Nodup/\∀ s∈ns,zaK s=true/\Sm 0 (.str s)/\s ≠ "twin"
def pick (S:List Str) (st:Int) (k:Nat):Str:=S.getD ((st+(k:Int)) % 4).toNat ""
theorem zvY {S:List Str} (hS:S.length=4) (st:Int) (k:Nat):atI (S.map D.str) ((st+(k:Int)) % 4)=some (.str (pick S st k)):=by
 have h0:0<=(st+(k:Int)) % 4:=ybu _ (by decide)
 have h1:(st+(k:Int)) % 4<4:=ybk _ (by decide)
 have hl:((st+(k:Int)) % 4).toNat<S.length:=by omega
 unfold atI ixN
 rw [yaM h0,yac,yaM (by omega)]
 show (S.map D.str)[((st+(k:Int)) % 4).toNat]?=_
 rw [yaA,yad hl]
 unfold pick
 rw [yay,yad hl]
 rfl
theorem zpg {S:List Str} (hS:S.length=4) (h:Names S) {st:Int} {n:Nat} (hn:n<=4):Names ((List.range n).map (pick S st)):=by
 have inS:∀ k,∃ i,∃ hi:i<S.length,((st+(k:Nat)) % 4:Int).toNat=i/\pick S st k=S[i]:=λk=>by
  have h0:0<=(st+(k:Int)) % 4:=ybu _ (by decide)
  have h1:(st+(k:Int)) % 4<4:=ybk _ (by decide)
  have hl:((st+(k:Int)) % 4).toNat<S.length:=by omega
  refine ⟨_,hl,rfl,?_⟩
  unfold pick
  rw [yay,yad hl]
  rfl
 refine ⟨?_,λs hs => ?_⟩
 ·rw [List.nodup_iff_pairwise_ne] at *
  refine ybH.mpr ?_
  refine ycd ?_ (List.pairwise_lt_range (n:=n))
  intro i j hi hj lt e
  have hi:=yav.mp hi
  have hj:=yav.mp hj
  obtain ⟨x,hx,ex,px⟩:=inS i
  obtain ⟨y,hy,ey,py⟩:=inS j
  rw [px,py] at e
  have:=zlm h.1 hx hy e
  omega
 ·obtain ⟨k,_,rfl⟩:=yal.mp hs
  obtain ⟨x,hx,_,px⟩:=inS k
  rw [px]
  exact h.2 _ (ybV hx)
theorem zln {s:Str} {l:List Nat} (e:s.cps.toList=l) (h1:1<=l.length) (h8:l.length<=8) (hl:∀ c∈l,c∈L16):zaK s=true/\Sm 0 (.str s)/\s ≠ "twin" := by
 have hn:s.length=l.length:=by rw [← e,yaU]; rfl
 refine ⟨?_,⟨by rw [hn]; omega,?_⟩,λz => ?_⟩
 ·unfold zaK
  rw [e,hn,yaj h1,yaj h8,yaR,yaR,yam]
  exact λc hc=>yaj (zuh c (hl c hc)).1
 ·show s.cps.all (· < 0x110000)=true
  rw [← ycm,e,yam]
  exact λc hc=>yaj (zuh c (hl c hc)).2
 ·have h116:116∈l:=by
   rw [← e,z]
   decide +kernel
  exact absurd (hl 116 h116) (by decide +kernel)
theorem zph {w b c d:Str} {cs:List Nat} {a o:Nat} {x:Nat} (h2:2<=cs.length) (h7:cs.length<=7) (hcs:∀ c∈cs,c∈L16) (ha:a<cs.length) (hx:cs[a]?=some x) (ho:o∈L16) (ne:o≠x)
 (ew:w.cps.toList=cs) (eb:b.cps.toList=cs.take a++[o]++cs.drop (a+1)) (ec:c.cps.toList=cs++[o]) (ed:d.cps.toList=cs.dropLast):Names [w,b,c,d]:=by
 have lb:b.cps.toList.length=cs.length:=by
  rw [eb,yax,yax,ybA,ybJ]
  show _+1+_=_
  omega
 have lc:c.cps.toList.length=cs.length+1:=by rw [ec,yax]; rfl
 have ld:d.cps.toList.length=cs.length-1:=by rw [ed,List.length_dropLast]
 have wb:w≠b:=λe=>by
  have e2:cs=cs.take a++[o]++cs.drop (a+1):=by rw [← eb,← e,ew]
  have e3:cs[a]?=some o:=by
   have lt:(cs.take a).length=a:=by rw [ybA]; omega
   rw [e2,yah,yb1 (by rw [lt]; exact yaw _),lt,Nat.sub_self]
   rfl
  rw [hx] at e3
  exact ne (yaQ e3).symm
 have lw:w.cps.toList.length=cs.length:=by rw [ew]
 refine ⟨?_,λs hs => ?_⟩
 ·simp only [ya8,yao,yaF,yb7,not_or,ybr,and_true,not_false_eq_true]
  refine ⟨⟨wb,λe => ?_,λe => ?_⟩,⟨λe => ?_,λe => ?_⟩,λe => ?_⟩
  ·rw [e] at lw; omega
  ·rw [e] at lw; omega
  ·rw [e] at lb; omega
  ·rw [e] at lb; omega
  ·rw [e] at lc; omega
 ·simp only [yao,yaF,yb7] at hs
  rcases hs with rfl | rfl | rfl | rfl
  ·exact zln ew (by omega) (by omega) hcs
  ·refine zln eb (by rw [← eb,lb]; omega) (by rw [← eb,lb]; omega) λx hx => ?_
   rcases yas.mp hx with hx | hx
   ·rcases yas.mp hx with hx | hx
    ·exact hcs x (ybl hx)
    ·have:x=o:=by simpa using hx
     subst this
     exact ho
   ·exact hcs x (ybI hx)
  ·refine zln ec (by rw [← ec,lc]; omega) (by rw [← ec,lc]; omega) λx hx => ?_
   rcases yas.mp hx with hx | hx
   ·exact hcs x hx
   ·have:x=o:=by simpa using hx
    subst this
    exact ho
  ·exact zln ed (by rw [← ed,ld]; omega) (by rw [← ed,ld]; omega) λx hx=>hcs x (ybl (by rw [List.dropLast_eq_take] at hx; exact hx))
theorem zpi:∀ {rows:List D},rows.all zgF=true->∃ ns:List Str,ns.length=rows.length/\rows.map zaE=ns/\(∀ n∈ns,zaK n=true)/\∀ r∈rows,∃ ps,r=.tup [.str (zaE r),.tup ps]:=λ{rows} h=>by
 refine ⟨_,yac _,rfl,λn hn => ?_,λr hr => ?_⟩
 ·obtain ⟨r,hr,rfl⟩:=yal.mp hn
  obtain ⟨n,ps,rfl,e⟩:=zlk (yam.mp h r hr)
  exact e
 ·obtain ⟨n,ps,rfl,e⟩:=zlk (yam.mp h r hr)
  exact ⟨ps,rfl⟩
theorem zmu:∀ (a:Str) (rows:List D),rows.all zgF=true->(zg8 a rows=true↔(a::rows.map zaE).Pairwise λa b=>ltS a b=true)
 | a,[],_=>by simp [zg8]
 | a,r::rows,h=>by
   rw [ybQ,yap] at h
   unfold zg8
   rw [h.1,yaR,yap,zmu (zaE r) rows h.2,yau]
   constructor
   ·rintro ⟨h1,h2⟩
    refine ybR.mpr ⟨λx hx => ?_,h2⟩
    rcases yao.mp hx with rfl | hx
    ·exact h1
    ·exact zlW h1 ((ybR.mp h2).1 x hx)
   ·intro h
    obtain ⟨h1,h2⟩:=ybR.mp h
    exact ⟨h1 _ yaa,h2⟩
theorem zrf {n:Str} (h:zaK n=true):ltS "" n=true:=by
 unfold zaK at h
 rw [yap,yap,yak] at h
 have h1:=h.1.1
 unfold ltS
 have e:("" : Str).cps.toList=[]:=by decide
 rw [e]
 have h2:1<=n.cps.toList.length:=by rw [yaU]; exact h1
 cases q:n.cps.toList with
 | nil=>rw [q] at h2; exact absurd h2 (by decide)
 | cons c cs=>exact yaj (List.nil_lt_cons _ _)
theorem zmv {rows:List D} (h:rows.all zgF=true):zg8 "" rows=(decide ((rows.map zaE).mergeSort leS=rows.map zaE)&&decide ((dedK ((rows.map zaE).map Sum.inr)).length=(rows.map zaE).length)):=by
 obtain ⟨ns,_,e,hn,_⟩:=zpi h
 rw [ybg,zmu "" rows h,yap,yak,yak,e,zoa]
 have l:((ns.map (Sum.inr:Str->Key))).length=ns.length:=yac _
 rw [← l,zhX,zki,← zoV,ybR]
 exact ⟨λh=>h.2,λh=>⟨λn z=>zrf (hn n z),h⟩⟩
theorem zrg {n:Str} (h:zaK n=true):PyData.strOk n=true:=by
 unfold zaK at h
 rw [yap] at h
 show n.cps.all (· < 0x110000)=true
 rw [← ycm,yam]
 intro c hc
 have h1:=yai (yam.mp h.2 c hc)
 exact yaj (yai (yam.mp (show zbG.all (λc=>decide (c<0x110000))=true by decide +kernel) c h1))
def zeK (p:D):Prop:=∃ a s:Str,p=.tup [.str a,.str s]/\zaK a=true/\(s = "+" \/ s = "-")
def GRow (r:D):Prop:=∃ (n:Str) (ps:List D),r=.tup [.str n,.tup ps]/\zaK n=true/\1<=ps.length/\ps.length<=4/\∀ p∈ps,zeK p
def zmw (q:PyData):Prop:=∃ a s:Str,q=.tuple [.str a,.str s]
theorem zou:∀ {ps:List D},(∀ p∈ps,zeK p)->∃ qs,D.pys ps=some qs/\(∀ q∈qs,zmw q)/\PyData.depthAll qs<=1
 | [],_=>⟨[],rfl,λ_ z=>absurd z yaF,ya4 _⟩
 | p::ps,h=>by
   obtain ⟨qs,e,hq,hd⟩:=zou (ps:=ps) λp hp=>h p (yab _ hp)
   obtain ⟨a,s,rfl,_⟩:=h p yaa
   refine ⟨.tuple [.str a,.str s]::qs,?_,λq hq' => ?_,?_⟩
   ·unfold D.pys
    rw [e]
    rfl
   ·rcases yao.mp hq' with rfl | hq'
    ·exact ⟨a,s,rfl⟩
    ·exact hq q hq'
   ·unfold PyData.depthAll
    exact Nat.max_le.mpr ⟨yaw _,hd⟩
theorem zgG:∀ {ps qs:List PyData},(∀ q∈ps,zmw q)->(∀ q∈qs,zmw q)->PySem.W.alikeAll ps qs=true
 | [],_,_,_=>by cases ‹List PyData›<;>rfl
 | _::_,[],_,_=>rfl
 | p::ps,q::qs,h,h'=>by
   obtain ⟨a,s,rfl⟩:=h p yaa
   obtain ⟨b,t,rfl⟩:=h' q yaa
   unfold PySem.W.alikeAll
   rw [zgG (λq hq=>h q (yab _ hq)) λq hq=>h' q (yab _ hq),yci]
   rfl
def zs4 (q:PyData):Prop:=∃ (n:Str) (qs:List PyData),q=.tuple [.str n,.tuple qs]/\(∀ q∈qs,zmw q)/\PyData.depthAll qs<=1
theorem zrh {r:D} (h:GRow r):∃ q,r.py=some q/\∃ qs,q=.tuple [.str (zaE r),.tuple qs]/\(∀ q∈qs,zmw q)/\PyData.depthAll qs<=1:=by
 obtain ⟨n,ps,rfl,_,_,_,hp⟩:=h
 obtain ⟨qs,e,hq,hd⟩:=zou hp
 refine ⟨_,?_,qs,rfl,hq,hd⟩
 simp only [D.py,D.pys,e,ycp]
 rfl
theorem zlo:∀ {R:List D},(∀ r∈R,GRow r)->∃ qs,D.pys R=some qs/\∀ q∈qs,zs4 q
 | [],_=>⟨[],rfl,λ_ z=>absurd z yaF⟩
 | r::R,h=>by
   obtain ⟨qs,e,hq⟩:=zlo (R:=R) λp hp=>h p (yab _ hp)
   obtain ⟨q,e1,ps,e2,hp,hd⟩:=zrh (h r yaa)
   refine ⟨q::qs,?_,λx hx => ?_⟩
   ·unfold D.pys
    rw [e,e1]
   ·rcases yao.mp hx with rfl | hx
    ·exact ⟨_,ps,e2,hp,hd⟩
    ·exact hq x hx
theorem zpj {p q:PyData} (h:zs4 p) (h':zs4 q):PySem.W.alike p q=true:=by
 obtain ⟨n,ps,rfl,hp,_⟩:=h
 obtain ⟨k,qs,rfl,hq,_⟩:=h'
 show (true&&(PySem.W.alikeAll ps qs&&true))=true
 rw [zgG hp hq]
 rfl
theorem zri {qs:List PyData} (h:∀ q∈qs,zs4 q):zet qs=true:=by
 unfold zet
 rw [yap,yap,yaZ,yam,yam]
 refine ⟨⟨λp hp => ?_,λp hp => ?_⟩,.inl ?_⟩
 ·rw [yam]
  exact λq hq=>zpj (h p hp) (h q hq)
 ·obtain ⟨n,ps,rfl,_,hd⟩:=h p hp
  refine yaj ?_
  show max 0 (max (PyData.depthAll ps+1) 0)+1<=60
  omega
 ·rw [yam]
  intro q hq
  obtain ⟨n,ps,rfl,_⟩:=h q hq
  rfl
theorem zs5 {r r':D} (h:GRow r) (h':GRow r') (ne:zaE r≠zaE r'):ltD r r'=ltS (zaE r) (zaE r'):=by
 obtain ⟨q,e,qs,rfl,hq,_⟩:=zrh h
 obtain ⟨q',e',qs',rfl,hq',_⟩:=zrh h'
 unfold ltD
 rw [e,e']
 show PySem.W.dataLt _ _=_
 have al:PySem.W.alike (PyData.tuple qs) (.tuple qs')=true:=zgG hq hq'
 rw [PySem.W.dataLt_pair rfl al]
 have ev:¬ PyData.eqv (.str (zaE r)) (.str (zaE r'))=true:=λz=>ne (by
  have z:(zaE r==zaE r')=true:=z
  exact eq_of_beq z)
 rw [yaH ev]
 exact PySem.W.dataLt_str _ _
theorem zs6 {r:D}:ltD r r=false:=by
 unfold ltD
 cases r.py with
 | none=>rfl
 | some p=>exact PySem.W.dataLt_self p
theorem zrj {R:List D} (h:∀ r∈R,GRow r) (nd:(R.map zaE).Nodup):(zdt R).map zaE=(R.map zaE).mergeSort leS:=by
 unfold zdt
 refine yb5 λa ha b hb => ?_
 unfold leD
 by_cases e:zaE b=zaE a
 ·have eab:a=b:=by
   obtain ⟨i,hi,rfl⟩:=List.getElem_of_mem ha
   obtain ⟨j,hj,rfl⟩:=List.getElem_of_mem hb
   have:i=j:=zlm nd (by rw [yac]; exact hi) (by rw [yac]; exact hj) (by rw [ycn,ycn]; exact e.symm)
   subst this
   rfl
  subst eab
  rw [zs6,zkZ,zm4]
 ·rw [zs5 (h b hb) (h a ha) e,zkZ]
theorem zs7 {r:D} (h:GRow r):zgF r=true:=by
 obtain ⟨n,ps,rfl,hn,l1,l4,hp⟩:=h
 show (zaK n&&(decide (1<=ps.length)&&decide (ps.length<=4)&&ps.all zia))=true
 rw [hn,yaj l1,yaj l4,yaR,yaR,yaR,yam]
 intro p hm
 obtain ⟨a,s,rfl,ha,hs⟩:=hp p hm
 show (zaK a&&(decide (s = "+")||decide (s = "-")))=true
 rw [ha]
 rcases hs with rfl | rfl<;>decide +kernel
theorem zku {R:List D} (h:∀ r∈R,GRow r) (nd:(R.map zaE).Nodup):zg8 "" (zdt R)=true:=by
 have mem:∀ r∈zdt R,GRow r:=λr hr=>h r ((ybp R leD).mem_iff.mp hr)
 have all:(zdt R).all zgF=true:=yam.mpr λr hr=>zs7 (mem r hr)
 rw [zmv all,zrj h nd,yap,yak,yak]
 have p:=ybp (R.map zaE) leS
 refine ⟨zoa.mpr (ycg zlU zlV _),?_⟩
 have l:(((R.map zaE).mergeSort leS).map (Sum.inr:Str->Key)).length=((R.map zaE).mergeSort leS).length:=yac _
 rw [← l,zhX,zki]
 exact p.nodup_iff.mpr nd
def pool:List Str:=["a", "add", "adder", "cut", "ring", "outer", "rule", "abcdefgh"]
def zib (st:Nat) (k:Nat):Str:=pool.getD ((st+3*k) % 8) ""
theorem zpk:∀ st,st<8->Names ((List.range 4).map (zib st)):=λst h=>by
 have:=yam.mp (show (List.range 8).all (λst=>decide (((List.range 4).map (zib st)).Nodup)&&((List.range 4).map (zib st)).all (λs=>zaK s&&(smB 0 (.str s)&&decide (s ≠ "twin"))))=true by decide +kernel) st (yav.mpr h)
 rw [yap,yak,yam] at this
 refine ⟨this.1,λs hs => ?_⟩
 have h2:=this.2 s hs
 rw [yap,yap,yak] at h2
 exact ⟨h2.1,Sm.of h2.2.1,h2.2.2⟩
theorem zrk {n:Nat} {a b:D} (ha:Sm n a) (hb:Sm n b):Sm (n+1) (.tup [a,b]):=⟨by simp,λd hd=>by
 simp at hd
 rcases hd with rfl | rfl
 ·exact ha
 ·exact hb⟩
theorem sm_tup {n:Nat} {ds:List D} (hl:ds.length<=1000) (h:∀ d∈ds,Sm n d):Sm (n+1) (.tup ds):=⟨hl,h⟩
theorem znu {n:Str} (h:zaK n=true):Sm 0 (.str n):=by
 refine ⟨?_,zrg h⟩
 unfold zaK at h
 rw [yap,yap,yak,yak] at h
 have:=h.1.2
 omega
theorem znv {r:D} (h:GRow r):Sm 3 r:=by
 obtain ⟨n,ps,rfl,hn,_,l4,hp⟩:=h
 refine zrk ((znu hn).mono (by decide)) (sm_tup (by omega) λp hm => ?_)
 obtain ⟨a,s,rfl,ha,hs⟩:=hp p hm
 refine zrk (znu ha) ?_
 rcases hs with rfl | rfl
 ·exact Sm.of (by decide +kernel)
 ·exact Sm.of (by decide +kernel)
def Pair (d:D):Prop:=∃ a b:Str,d=.tup [.str a,.str b]/\Sm 0 (.str a)/\Sm 0 (.str b)
theorem zvZ {p:D} (h:Pair p):Sm 1 p:=by
 obtain ⟨a,b,rfl,ha,hb⟩:=h
 exact zrk ha hb
theorem zpl {p:D} (h:zeK p):Pair p:=by
 obtain ⟨a,s,rfl,ha,hs⟩:=h
 refine ⟨a,s,rfl,znu ha,?_⟩
 rcases hs with rfl | rfl
 ·exact Sm.of (by decide +kernel)
 ·exact Sm.of (by decide +kernel)
end VW
namespace VW
open PySem PySem.Spec PyProof.Rows L2 R
theorem zs8 {i j:Int} (h:0<j) (h':j.natAbs.log2<9000):zvj (.int i) (.int j)=.ok (.int (i / j)):=zaV (yaj (⟨h,h'⟩:CDivW i j))
theorem zv0 {h m:Int} (h0:0<m) (h1:m.natAbs.log2<9000):zaH [.int h] (.int m)=.ok (.int (h % m),[.int (h / m)]):=by
 simp [zaH,zgE h0,zs8 h0 h1]
theorem r_take {h m:Int} (h0:0<m) (h1:m<1073741824):zaH [.int h] (.int m)=.ok (.int (h % m),[.int (h / m)]):=by
 exact zv0 h0 (Nat.lt_trans ((Nat.log2_lt (by omega)).mpr (show m.natAbs<2 ^ 30 by omega)) (by decide))
theorem zs9 {ns:List Int} {k:Int} (hk:0<=k):∃ h,zd2 (.scr ns) (.int k)=.ok [.int h]:=by
 unfold zd2
 simp only [zon,zac,zdV,zvT]
 have key:∀ c:Int,∃ h,(R.bind (nPow (.int 10) (.int 18)) λt_5=>R.bind (nOrd .ge (.int c) t_5) λt_6 =>
  if t_6=true then R.bind (nPow (.int 10) (.int 18)) λt_7=>R.bind (nSub (.int c) t_7) λt_8=>.ok [t_8]
  else R.bind (nMul (.int c) (.int 48271)) λt_9=>R.bind (nMul (.int 7919) (.int k)) λt_10=>R.bind (nAdd t_9.d t_10.d) λt_11=>R.bind (nAdd t_11.d (.int 11)) λt_12=>R.bind (nMod t_12.d (.int 2147483647)) λt_13 =>
   R.bind (nR1 (.int 12)) λds_1=>R.bind (R.forS zd0 ds_1 (.fz (.int 0),t_13)) λs_2=>.ok [s_2.1.d])=.ok [.int h]:=λc=>by
  have e10:nPow (.int 10) (.int 18)=.ok (.int (10 ^ 18)):=zvN ⟨by decide,by decide,by decide⟩
  simp only [e10,zac,zdV,od_ge,zq5]
  by_cases hc:(10:Int) ^ 18<=c
  ·rw [yaM (yaj hc)]
   exact ⟨_,rfl⟩
  ·rw [yaH (by simpa using hc)]
   simp only [zom (i:=c) (j:=48271) (by decide) (by decide),zq6 (i:=7919) (j:=k) (by decide) (by decide),zac,zdA,fz_d,zgE (j:=2147483647) (by decide),zms (i:=12) (by decide) (by decide)]
   obtain ⟨s,e,t,n,rfl,_⟩:=ziC (body:=zd0) (ds:=rngD 0 (12:Int).toNat) (s:=(.fz (.int 0),.int ((c*48271+7919*k+11) % 2147483647))) (λ_ s=>∃ t n:Int,s=(.fz (.int t),.int n)/\0<=n/\n<2147483647) 0
    ⟨_,_,rfl,ybu _ (by decide),ybk _ (by decide)⟩ λj d s hd hs=>by
     obtain ⟨t,n,rfl,h0,h1⟩:=hs
     obtain ⟨_,rfl⟩:=zns hd
     refine ⟨(.fz (.int (t*2147483587+(n*n+48271*n+(0+j)) % 2147483629*69621 % 2147483587)),.int ((n*n+48271*n+(0+j)) % 2147483629)),?_,_,_,rfl,ybu _ (by decide),Int.lt_trans (ybk _ (by decide)) (by decide)⟩
     have a0:=ybu (n*n+48271*n+(0+j)) (b:=2147483629) (by decide)
     have a1:=ybk (n*n+48271*n+(0+j)) (b:=2147483629) (by decide)
     unfold zd0
     simp only [zom (i:=n) (j:=n) (by omega) (by omega),zq6 (i:=48271) (j:=n) (by decide) (by decide),zac,zdA,fz_d,zgE (j:=2147483629) (by decide),zom (j:=2147483587) (by decide) (by decide),zom (j:=69621) (by decide) (by decide),zgE (j:=2147483587) (by decide)]
   rw [e]
   exact ⟨t,rfl⟩
 by_cases hc:k<(ns.length:Int)
 ·obtain ⟨c,_,hx⟩:=zfY hk hc
  rw [yaj hc]
  simp only [ycC,zvP hx,zac]
  exact key c
 ·rw [yaN hc]
  simp only [ya9,ych,zac]
  exact key 0
theorem sm_str {n:Nat} {s:Str} (h:Sm n (.str s)):s.length<=1000/\PyData.strOk s=true:=by cases n<;>exact h
theorem ziD {n:Nat} {ds:List D} (h:Sm n (.tup ds)):ds.length<=1000/\∀ d∈ds,Sm n d:=by
 cases n with
 | zero=>exact h.elim
 | succ n=>exact ⟨h.1,λd hd=>(h.2 d hd).mono (Nat.le_succ n)⟩
theorem zrl (neg:Bool) (c:Nat) (t:Str):nIn neg (sgn c) (.str t)=.ok (xorB neg (decide (c∈t.cps.toList))):=rfl
theorem zjD {n:Nat} {d:D} (hd:Sm n d):zeO d=.ok (zh9 d):=by
 unfold zeO
 rw [zrb hd]
 cases d with
 | str s =>
   have hl:=ze3 (sm_str hd).1
   simp only [zs2,zac,ya3,zg6 hl,zdV,zpe,zhr,zi3,ycA,zhK]
   show _=R.ok (zaK s)
   unfold zaK
   rw [show decide ((1:Int)<=(s.length:Int))=decide (1<=s.length) by rw [yaW]; omega,show decide ((s.length:Int)<=8)=decide (s.length<=8) by rw [yaW]; omega]
   cases h:(decide (1<=s.length)&&decide (s.length<=8)) with
   | false=>rfl
   | true =>
     simp only [ya3,ya9,ych,yaR]
     rw [zlj (p:=λd=>match d with
      | .str s=>s.cps.toList.all λc=>decide (c∈zbG)
      | _=>false) (r:=.ok false)]
     ·rw [yb4]
      have e:((λd=>match d with
       | D.str s=>s.cps.toList.all λc=>decide (c∈zbG)
       | _=>false)∘sgn)=λc=>decide (c∈zbG):=by
       funext c
       show ([c].all λc=>decide (c∈zbG))=_
       simp
      rw [e]
      cases s.cps.toList.all λc=>decide (c∈zbG)<;>rfl
     ·intro d hd K
      obtain ⟨c,_,rfl⟩:=yal.mp hd
      unfold zhZ
      rw [zrl]
      show (if (xorB true (decide (c∈zbG)))=true then _ else _)=if ([c].all λc=>decide (c∈zbG))=true then _ else _
      by_cases hc:c∈zbG<;>simp [hc,xorB]
 | _=>first
   | rfl
   | (cases n<;>exact hd.elim)
theorem zrm {n:Nat} {d:D} (hd:Sm n d):zfB d=.ok (zia d):=by
 unfold zfB
 rw [zg7 hd]
 cases d with
 | tup ds =>
   obtain ⟨hl,hi⟩:=ziD hd
   match ds,hl,hi with
   | [],_,_=>rfl
   | [_],_,_=>rfl
   | _::_::_::l,_,_ =>
     have e:decide (((l.length+1+1+1:Nat):Int)=2)=false:=yaN (by omega)
     simp only [zli,zac,ya3,zfg,zs1,yaq,e]
     rfl
   | [a,b],_,hi =>
     have ha:=hi a (by simp)
     have hb:=hi b (by simp)
     simp only [zli,zac,ya3,zfg,zs1,zjz,zjA,zjD ha,zrb hb,zi3]
     show _=R.ok (zh9 a&&zgh b)
     cases hn:zh9 a with
     | false=>rfl
     | true =>
       cases b with
       | str s =>
         have e:nIn false (.str s) (.tup [.str "+",.str "-"])=.ok (zgh (.str s)):=by
          show R.ok (xorB false (inV (V.str s) [V.str "+",V.str "-"]))=_
          rw [zrc]
         simp [zs2,e]
       | _=>first
         | rfl
         | (cases n<;>exact hb.elim)
 | _=>first
   | rfl
   | (cases n<;>exact hd.elim)
theorem zta (p:D->Bool) (ds:List D):nAll (.lst (ds.map λd=>.bl (p d)))=.ok (ds.all p):=by
 unfold nAll
 simp only [zqu,ofO,zac,all_map]
theorem zpm {ds:List D} {ps:List PyData} (hp:D.pys ds=some ps) (hs:zet ps=true):zi1 (.lst ds)=.ok (zdt ds):=by
 unfold zi1
 simp only [hp,ofO,zac,hs,zqy]
theorem d14 (l:Nat):(decide ((1:Int)<=(l:Int))&&decide ((l:Int)<=4))=(decide (1<=l)&&decide (l<=4)):=by
 rw [show decide ((1:Int)<=(l:Int))=decide (1<=l) by rw [yaW]; omega,show decide ((l:Int)<=4)=decide (l<=4) by rw [yaW]; omega]
theorem d18 (l:Nat):(decide ((1:Int)<=(l:Int))&&decide ((l:Int)<=8))=(decide (1<=l)&&decide (l<=8)):=by
 rw [show decide ((1:Int)<=(l:Int))=decide (1<=l) by rw [yaW]; omega,show decide ((l:Int)<=8)=decide (l<=8) by rw [yaW]; omega]
theorem zg9 {n:Nat} {d:D} (hd:Sm n d):zdd d=.ok (zgF d):=by
 unfold zdd
 rw [zg7 hd]
 cases d with
 | tup ds =>
   obtain ⟨hl,hi⟩:=ziD hd
   match ds,hl,hi with
   | [],_,_=>rfl
   | [_],_,_=>rfl
   | _::_::_::l,_,_ =>
     have e:decide (((l.length+1+1+1:Nat):Int)=2)=false:=yaN (by omega)
     simp only [zli,zac,ya3,zfg,zs1,yaq,e]
     rfl
   | [a,b],_,hi =>
     have ha:=hi a (by simp)
     have hb:=hi b (by simp)
     simp only [zli,zac,ya3,zfg,zs1,zjz,zjA,zjD ha,zg7 hb,zi3]
     show _=R.ok (zh9 a&&znt b)
     cases hn:zh9 a with
     | false=>rfl
     | true =>
       cases b with
       | tup ps =>
         obtain ⟨hpl,hp⟩:=ziD hb
         have em:lcM (λd_1:D=>R.bind (zfB d_1) λt_13=>.ok (.bl t_13)) ps=.ok (ps.map λd=>.bl (zia d)):=zeJ (ze3 hpl) λd hd=>by rw [zrm (hp d hd)]; rfl
         simp only [zli,zfg,zac,zdV,zpe,zhr,d14,ya3,zi3,zeU,em,zta]
         show _=R.ok (true&&(decide (1<=ps.length)&&decide (ps.length<=4)&&ps.all zia))
         cases (decide (1<=ps.length)&&decide (ps.length<=4))<;>rfl
       | _=>first
         | rfl
         | (cases n<;>exact hb.elim)
 | _=>first
   | rfl
   | (cases n<;>exact hd.elim)
theorem zpn {r:D} (h:zgF r=true):∃ ps,r=.tup [.str (zaE r),.tup ps]:=by
 obtain ⟨n,ps,rfl,_⟩:=zlk h
 exact ⟨ps,rfl⟩
theorem zjE {σ β:Type} {body:D->σ->(σ->R β)->R β} {after:σ->R β} {d:D} {ds:List D} {s:σ}:R.forN body after (d::ds) s=body d s λs=>R.forN body after ds s:=rfl
theorem zrn {σ:Type} {body:D->σ->R σ} {d:D} {ds:List D} {s:σ}:R.forS body (d::ds) s=(body d s).bind λs=>R.forS body ds s:=rfl
theorem zpo {n:Nat} {r:D} {a:Str} {K:D->R Bool} (h:Sm n r):zdZ r (.str a) K=if (zgF r&&ltS a (zaE r))=true then K (.str (zaE r)) else .ok false:=by
 unfold zdZ
 rw [zg9 h]
 simp only [zac]
 cases hr:zgF r with
 | false=>rfl
 | true =>
   obtain ⟨ps,e⟩:=zpn hr
   have e0:nIx r (.int 0)=.ok (.str (zaE r)):=by rw [e]; exact zjz _ _
   simp only [e0,zac,ya3,zvS,zi3,ycA,yaR]
   cases ltS a (zaE r)<;>rfl
theorem zf3:∀ {rows:List D} {n:Nat} {a:Str},(∀ r∈rows,Sm n r)->R.forN zdZ (λ_=>.ok true) rows (.str a)=.ok (zg8 a rows)
 | [],_,_,_=>rfl
 | r::rows,n,a,h=>by
   rw [zjE,zpo (h r yaa),zf3 λx hx=>h x (yab _ hx)]
   show _=R.ok (zgF r&&ltS a (zaE r)&&zg8 (zaE r) rows)
   cases (zgF r&&ltS a (zaE r))<;>rfl
theorem zpp {n:Nat} {d:D} (hd:Sm n d):zfZ d=.ok (zrd d):=by
 unfold zfZ
 rw [zg7 hd]
 cases d with
 | tup ds =>
   obtain ⟨hl,hi⟩:=ziD hd
   simp only [zli,zac,ya3,zfg,zdV,zpe,zhr,d18,zi3,zeU,zf3 hi,ycA]
   show _=R.ok (decide (1<=ds.length)&&decide (ds.length<=8)&&zg8 "" ds)
   cases (decide (1<=ds.length)&&decide (ds.length<=8))<;>rfl
 | _=>first
   | rfl
   | (cases n<;>exact hd.elim)
theorem zbR (h:Int) {m:Int} (h0:0<m) (h1:m<1073741824):∃ i h',zaH [.int h] (.int m)=.ok (.int i,[.int h'])/\0<=i/\i<m :=
 ⟨_,_,r_take h0 h1,ybu _ (by omega),ybk _ h0⟩
theorem zpq {xs:List D} {i:Int} (h0:0<=i) (h1:i<xs.length):∃ x,x∈xs/\nIx (.lst xs) (.int i)=.ok x:=by
 obtain ⟨x,hx,e⟩:=zfY h0 h1
 exact ⟨x,yaP hx,zfT e⟩
theorem zro (ts:List Str):zoX (ts.map D.str)=some ts:=by
 induction ts with
 | nil=>rfl
 | cons t ts ih =>
   show (zoX (ts.map D.str)).map (t :: ·)=_
   rw [ih]
   rfl
theorem zov {s:Str} {ts:List Str} (h:(ts.map (·.length)).sum+ts.length*s.length<=16777216):zhp (.str s) (.lst (ts.map D.str))=.ok (.str (Txt.join s ts)):=by
 unfold zhp
 simp only [zro,ofO,zac,zaV (zdX h)]
theorem zv1 (cs:List Nat):cs.map sgn=(cs.map λc=>(⟨#[c]⟩:Str)).map D.str:=by
 rw [yaK]
 rfl
theorem zpr {cs:List Nat} (h:cs.length<=1000):∃ w:Str,zhp (.str "") (.lst (cs.map sgn))=.ok (.str w)/\w.cps.toList=cs:=by
 refine ⟨_,?_,zpf cs⟩
 rw [zv1]
 refine zov ?_
 rw [zre,yac]
 show cs.length+cs.length*0<=_
 omega
theorem zv2 {xs:List D} {A:Nat->Prop} (h:∀ x∈xs,∃ c,x=sgn c/\A c):∃ cs:List Nat,xs=cs.map sgn/\∀ c∈cs,A c:=by
 induction xs with
 | nil=>exact ⟨[],rfl,λ_ z=>absurd z yaF⟩
 | cons x xs ih =>
   obtain ⟨c,rfl,hc⟩:=h x yaa
   obtain ⟨cs,rfl,hcs⟩:=ih λy hy=>h y (yab _ hy)
   exact ⟨c::cs,rfl,λy hy=>(yao.mp hy).elim (λe=>e▸hc) (hcs y)⟩
theorem slen (w:Str):w.length=w.cps.toList.length:=(yaU).symm
theorem zv3 {s t:Str} {i:Nat} {rest:List Nat} (h:Builtin.Str.occurrences s t 0 s.length 1=i::rest):nSIx (.str s) (.str t)=.ok (.int i):=by
 unfold nSIx
 simp only [h]
theorem zf4 (a b:Str):(a++b).cps.toList=a.cps.toList++b.cps.toList:=by
 show (a.cps++b.cps).toList=_
 exact Array.toList_append
theorem zrp (h:Int) {n:Int} (n0:0<=n) (n4:n<=4):∃ ns h',zeP [.int h] (.int n)=.ok (ns.map D.str,[.int h'])/\ns.length=n.toNat/\Names ns:=by
 unfold zeP
 obtain ⟨t,h1,e1,t0,t1⟩:=zbR h (m:=6) (by decide) (by decide)
 simp only [e1,zac,zdA,fz_d,zms (i:=2+t) (by omega) (by omega)]
 obtain ⟨xs,s,e2,xl,hx,h2,rfl⟩:=zvX (f:=λ(d_2:D) (s:List D)=>R.bind (zaH s (.int 16)) λt_5=>R.bind (nIx (.str "abcdefghijklmnop") t_5.1) λt_6=>.ok ((t_6,t_5.2)))
  (λs=>∃ h:Int,s=[.int h]) (λx=>∃ c,x=sgn c/\c∈L16) (ds:=rngD 0 (2+t).toNat) (s:=[.int h1]) (by rw [zf2]; exact ze3 (by omega)) ⟨h1,rfl⟩ λd _ s hs=>by
   obtain ⟨g,rfl⟩:=hs
   obtain ⟨i,g',e,i0,i1⟩:=zbR g (m:=16) (by decide) (by decide)
   obtain ⟨c,hc,ec⟩:=zfY (xs:=l16.cps.toList) i0 (by rw [show l16.cps.toList.length=16 from zll]; exact i1)
   refine ⟨sgn c,[.int g'],?_,⟨c,rfl,yaP hc⟩,g',rfl⟩
   simp only [e,zac,zhM (s := "abcdefghijklmnop") ec (by decide)]
 obtain ⟨cs,rfl,hcs⟩:=zv2 hx
 rw [zf2,yac] at xl
 obtain ⟨w,e3,wl⟩:=zpr (cs:=cs) (by omega)
 have wn:w.length=cs.length:=by rw [slen,wl]
 have wz:w.length<=sizeLine:=ze3 (by omega)
 obtain ⟨a,h3,e4,a0,a1⟩:=zbR h2 (m:=(w.length:Int)) (by omega) (by omega)
 obtain ⟨c,hc,ec⟩:=zfY (xs:=w.cps.toList) a0 (by rw [← slen]; exact a1)
 have hcL:c∈L16:=hcs c (by rw [← wl]; exact yaP hc)
 obtain ⟨ix,rest,eo,ix1,ixc⟩:=L16_ix c hcL
 obtain ⟨j,h4,e5,j0,j1⟩:=zbR h3 (m:=15) (by decide) (by decide)
 obtain ⟨o,ho,eo2⟩:=zfY (xs:=l16.cps.toList) (i:=((ix:Int)+1+j) % 16) (by omega) (by rw [show l16.cps.toList.length=16 from zll]; omega)
 have hoL:o∈L16:=yaP ho
 have oc:o≠c:=λz=>by
  subst z
  have e1:(((ix:Int)+1+j) % 16).toNat=ix:=by
   have l1:(((ix:Int)+1+j) % 16).toNat<L16.length:=by rw [zll]; omega
   have l2:ix<L16.length:=by rw [zll]; exact ix1
   have g1:L16[(((ix:Int)+1+j) % 16).toNat]=o:=yaQ ((yad l1).symm.trans ho)
   have g2:L16[ix]=o:=yaQ ((yad l2).symm.trans ixc)
   exact zlm L16_nd l1 l2 (g1.trans g2.symm)
  omega
 have eo':nSIx (.str "abcdefghijklmnop") (sgn c)=.ok (.int ix):=zv3 eo
 obtain ⟨b1,hb1⟩:∃ b,b=cutS w none (some a):=⟨_,rfl⟩
 have b1c:b1.cps.toList=cs.take a.toNat:=by rw [hb1,zui a0,wl]
 obtain ⟨b2,hb2⟩:∃ b,b=cutS w (some (a+1)) none:=⟨_,rfl⟩
 have b2c:b2.cps.toList=cs.drop (a+1).toNat:=by rw [hb2,zot (by omega),wl]
 obtain ⟨d1,hd1⟩:∃ b,b=cutS w none (some (-1)):=⟨_,rfl⟩
 have d1c:d1.cps.toList=cs.dropLast:=by rw [hd1,zs3,wl]
 have b1l:b1.length<=cs.length:=by rw [slen,b1c,ybA]; omega
 have b2l:b2.length<=cs.length:=by rw [slen,b2c,ybJ]; omega
 have e6:nAdd (.str b1) (sgn o)=.ok (.fz (.str (b1++⟨#[o]⟩))):=zjy (by show b1.length+1<=_; exact ze3 (by omega))
 have l6:(b1++(⟨#[o]⟩:Str)).length=b1.length+1:=by rw [slen,zf4,yax,← slen]; rfl
 have e7:nAdd (.str (b1++⟨#[o]⟩)) (.str b2)=.ok (.fz (.str (b1++⟨#[o]⟩++b2))):=zjy (by rw [l6]; exact ze3 (by omega))
 have e8:nAdd (.str w) (sgn o)=.ok (.fz (.str (w++⟨#[o]⟩))):=zjy (by show w.length+1<=_; exact ze3 (by omega))
 obtain ⟨st,h5,e9,s0,s1⟩:=zbR h4 (m:=4) (by decide) (by decide)
 have nm:Names [w,b1++⟨#[o]⟩++b2,w++⟨#[o]⟩,d1]:=zph (a:=a.toNat) (x:=c) (o:=o) (by omega) (by omega) hcs (by omega) (by rw [← wl]; exact hc) hoL oc wl
  (by rw [zf4,zf4,b1c,b2c,show (a+1).toNat=a.toNat+1 by omega]) (by rw [zf4,wl]) d1c
 obtain ⟨S,hS⟩:∃ S,S=[w,b1++⟨#[o]⟩++b2,w++⟨#[o]⟩,d1]:=⟨_,rfl⟩
 have em:lcM (λd_3:D=>R.bind (nAdd (.int st) d_3) λt_26=>R.bind (nMod t_26.d (.int 4)) λt_27=>nIx (.lst [.str w,.str (b1++⟨#[o]⟩++b2),.str (w++⟨#[o]⟩),.str d1]) t_27) (rngD 0 n.toNat) =
  .ok ((rngD 0 n.toNat).map λd=>match d with
   | .int k=>.str (pick S st k.toNat)
   | _=>.non):=by
  refine zeJ (by rw [zf2]; exact ze3 (by omega)) λd hd => ?_
  obtain ⟨k,hk,rfl⟩:=zop hd
  simp only [zdA,zac,fz_d,zgE (j:=4) (by decide),Int.zero_add]
  have:=zvY (S:=S) (by rw [hS]; rfl) st k
  rw [hS] at this
  rw [yaS,hS]
  exact zfT this
 refine ⟨(List.range n.toNat).map (pick S st),h5,?_,by rw [yac,yaI],zpg (by rw [hS]; rfl) (hS▸nm) (by omega)⟩
 have e9':nSl (.str w) none (some a)=.ok (.fz (.str b1)):=by rw [zeI wz,hb1]
 have e10:nSl (.str w) (some (a+1)) none=.ok (.fz (.str b2)):=by rw [zeI wz,hb2]
 have e11:nSl (.str w) none (some (-1))=.ok (.fz (.str d1)):=by rw [zeI wz,hd1]
 simp only [e2,zac,e3,zg6 wz,e4,zhM ec wz,eo',zdA,fz_d,e5,zgE (j:=16) (by decide),zhM (s := "abcdefghijklmnop") eo2 (by decide),nInt_i,e9',e6,e10,e7,e8,nNeg_i,e11,e9,zms n0 (by omega),em]
 congr 2
 rw [zmt,yaK,yaK]
 rfl
theorem zuj {ns:List Str} {k:Nat} (h:k<ns.length):nIx (.lst (ns.map D.str)) (.int k)=.ok (.str ns[k]):=by
 refine zfT (atI_nat ?_)
 rw [yaA,yad h]
 rfl
theorem ztb {ns:List Str} {i:Int} (h0:0<=i) (h1:i<ns.length):∃ s,s∈ns/\nIx (.lst (ns.map D.str)) (.int i)=.ok (.str s):=by
 obtain ⟨x,hx,e⟩:=zpq (xs:=ns.map D.str) h0 (by rw [yac]; exact h1)
 obtain ⟨s,hs,rfl⟩:=yal.mp hx
 exact ⟨s,hs,e⟩
theorem zv4 {i:Int} (h0:0<=i) (h1:i<2):∃ s:Str,(s = "+" \/ s = "-")/\nIx (.str "+-") (.int i)=.ok (.str s):=by
 rcases (show i=0\/i=1 by omega) with rfl | rfl
 ·exact ⟨"+",.inl rfl,zhM (c:=43) (by decide) (by decide)⟩
 ·exact ⟨"-",.inr rfl,zhM (c:=45) (by decide) (by decide)⟩
theorem zv5 {T:List Str} (h:Int) {x:List D} (T1:1<=T.length) (T3:T.length<=4) (nT:Names T) (n:Nat) (hn:n<=4):∃ h' ps,R.forS (zew (T.map D.str,x)) (rngD 0 n) ([.int h],[])=.ok ([.int h'],ps)/\ps.length=n/\∀ p∈ps,zeK p:=by
 obtain ⟨s,e,h',ps,rfl,hl,hp⟩:=ziC (body:=zew (T.map D.str,x)) (ds:=rngD 0 n) (s:=([.int h],[])) (λk s=>∃ (h:Int) (ps:List D),s=([.int h],ps)/\ps.length=k/\∀ p∈ps,zeK p) 0 ⟨h,[],rfl,rfl,λ_ z=>absurd z yaF⟩ λj d s hd hs=>by
  obtain ⟨h,ps,rfl,hl,hp⟩:=hs
  obtain ⟨hj,rfl⟩:=zns hd
  obtain ⟨a,h1,e1,a0,a1⟩:=zbR h (m:=(T.length:Int)) (by omega) (by omega)
  obtain ⟨t,ht,e2⟩:=ztb (ns:=T) a0 a1
  obtain ⟨b,h2,e3,b0,b1⟩:=zbR h1 (m:=2) (by decide) (by decide)
  obtain ⟨sd,hsd,e4⟩:=zv4 b0 b1
  refine ⟨([.int h2],ps++[.tup [.str t,.str sd]]),?_,h2,_,rfl,by rw [yax,hl]; rfl,λp hm => ?_⟩
  ·unfold zew
   simp only [zeB,yac,zac,e1,e2,e3,e4,znr (show ps.length<16777216 by omega)]
  ·rcases yas.mp hm with hm | hm
   ·exact hp p hm
   ·have:p=.tup [.str t,.str sd]:=by simpa using hm
    subst this
    exact ⟨t,sd,rfl,(nT.2 t ht).1,hsd⟩
 rw [zf2,ybx] at hl
 exact ⟨h',ps,e,hl,hp⟩
theorem eq_nil (R:List D) (hR:∀ r∈R,GRow r) (h4:R.length<=4):nEq true (.lst R) (.lst ([]:List D))=.ok (!R.isEmpty):=by
 obtain ⟨qs,e,hq⟩:=zlo hR
 have c1:canD (.lst R)=true:=by
  have:Sm 4 (.lst R):=⟨by omega,λr hr=>znv (hR r hr)⟩
  exact this.can (by decide)
 rw [zvR (zm3 c1 (by decide +kernel))]
 congr 2
 unfold eqD D.py
 rw [e]
 cases R with
 | nil=>cases e; rfl
 | cons r R =>
   cases qs with
   | nil =>
     unfold D.pys at e
     split at e<;>simp at e
   | cons q qs=>rfl
theorem zv6 {T S:List Str} {y z:List D} (T1:1<=T.length) (T3:T.length<=4) (nT:Names T) (lS:S.length=4) (nS:Names S) (k:Nat) (hk:k<4) (h:Int) (Rw:List D) (lR:Rw.length=k) (nR:Rw.map zaE=S.take k) (gR:∀ r∈Rw,GRow r) :
 ∃ h' R',zex (T.map D.str,y) (z,S.map D.str) (.int k) ([.int h],Rw)=.ok ([.int h'],R')/\R'.length=k+1/\R'.map zaE=S.take (k+1)/\∀ r∈R',GRow r:=by
 unfold zex
 obtain ⟨a,h1,e1,a0,a1⟩:=zbR h (m:=4) (by decide) (by decide)
 obtain ⟨h2,ps,e2,pl,gp⟩:=zv5 h1 (x:=y) T1 T3 nT (1+a).toNat (by omega)
 simp only [e1,zac,zdA,fz_d,zms (i:=1+a) (by omega) (by omega),e2,eq_nil Rw gR (by omega)]
 have fin:∀ (h3:Int) (s5:M) (ps:List D),zcC s5.d=.ok (.tup ps)->1<=ps.length->ps.length<=4->(∀ p∈ps,zeK p) ->
  ∃ h' R',(R.bind (nIx (.lst (S.map D.str)) (.int k)) λt_29=>R.bind (zcC s5.d) λt_30=>R.bind (nApp Rw (.tup [t_29,t_30])) λrows_1=>R.ok (([D.int h3],rows_1):List D×List D))=.ok ([.int h'],R')/\R'.length=k+1/\R'.map zaE=S.take (k+1)/\∀ r∈R',GRow r:=λh3 s5 ps e p1 p4 gp=>by
  refine ⟨h3,Rw++[.tup [.str S[k],.tup ps]],?_,by rw [yax,lR]; rfl,?_,λr hr => ?_⟩
  ·simp only [zuj (show k<S.length by omega),zac,e,znr (show Rw.length<16777216 by omega)]
  ·rw [yba,nR,List.take_succ,yad (show k<S.length by omega)]
   rfl
  ·rcases yas.mp hr with hr | hr
   ·exact gR r hr
   ·have:r=.tup [.str S[k],.tup ps]:=by simpa using hr
    subst this
    exact ⟨S[k],ps,rfl,(nS.2 _ (ybV _)).1,p1,p4,gp⟩
 cases Rw with
 | nil =>
   simp only [List.isEmpty_nil,ya3,ya9,ych,zac]
   exact fin h2 (.lst ps) ps rfl (by omega) (by omega) gp
 | cons r Rw =>
   obtain ⟨b,h3,e3,_,_⟩:=zbR h2 (m:=3) (by decide) (by decide)
   obtain ⟨n0,p0,e0,_,q1,q4,gq⟩:=gR r yaa
   simp only [List.isEmpty_cons,Bool.not_false,ycC,e3,zac,nE_ii]
   by_cases hb:b=0
   ·simp only [hb,ybY,ycC,zh8,zac,e0,zjA]
    rw [e0] at fin
    exact fin h3 (.fz (.tup p0)) p0 rfl q1 q4 gq
   ·simp only [hb,ybE,ya9,ych,zac]
    exact fin h3 (.lst ps) ps rfl (by omega) (by omega) gp
theorem ztc (h:Int):∃ rows h',zfI [.int h]=.ok (.tup rows,[.int h'])/\(zg8 "" rows=true/\1<=rows.length/\rows.length<=4/\∀ r∈rows,GRow r)/\∀ r∈rows,zaE r ≠ "twin" := by
 unfold zfI
 obtain ⟨st,h1,e1,s0,s1⟩:=zbR h (m:=8) (by decide) (by decide)
 have em:lcM (λd_1:D=>R.bind (nMul (.int 3) d_1) λt_2=>R.bind (nAdd (.int st) t_2.d) λt_3=>R.bind (nMod t_3.d (.int 8)) λt_4=>nIx (.lst [.str "a",.str "add",.str "adder",.str "cut",.str "ring",.str "outer",.str "rule",.str "abcdefgh"]) t_4) (rngD 0 (4:Int).toNat) =
  .ok ((rngD 0 (4:Int).toNat).map λd=>match d with
   | .int k=>.str (zib st.toNat k.toNat)
   | _=>.non):=by
  refine zeJ (by rw [zf2]; exact ze3 (by decide)) λd hd => ?_
  obtain ⟨k,hk,rfl⟩:=zop hd
  simp only [zq6 (i:=3) (j:=0+(k:Int)) (by decide) (by decide),zdA,zac,fz_d,zgE (j:=8) (by decide)]
  have a0:0<=(st+3*(0+(k:Int))) % 8:=ybu _ (by decide)
  have a1:(st+3*(0+(k:Int))) % 8<8:=ybk _ (by decide)
  have e1:((st+3*(0+(k:Int))) % 8).toNat=(st.toNat+3*k) % 8:=by omega
  have hl:(st.toNat+3*k) % 8<pool.length:=by show _<8; omega
  have:=zuj (ns:=pool) hl
  rw [show (((st.toNat+3*k) % 8:Nat):Int)=(st+3*(0+(k:Int))) % 8 by omega] at this
  refine ybf this ?_
  show R.ok _=R.ok (D.str (pool.getD ((st.toNat+3*(0+(k:Int)).toNat) % 8) ""))
  rw [show (0+(k:Int)).toNat=k by omega,yay,yad hl]
  rfl
 have em2:((rngD 0 (4:Int).toNat).map λd=>match d with
  | .int k=>D.str (zib st.toNat k.toNat)
  | _=>.non)=((List.range 4).map (zib st.toNat)).map D.str:=by
  rw [zmt,yaK,yaK]
  rfl
 obtain ⟨c,h2,e3,_,_⟩:=zbR h1 (m:=2) (by decide) (by decide)
 have hS:∃ S h3,(if (decide (c=0))=true then (R.bind (zeP [.int h2] (.int 4)) λt_9=>.ok (t_9.2,t_9.1):R (List D×List D)) else .ok ([.int h2],((List.range 4).map (zib st.toNat)).map D.str))=.ok ([.int h3],S.map D.str)/\S.length=4/\Names S:=by
  by_cases hc:c=0
  ·obtain ⟨S,h3,e,l,n⟩:=zrp h2 (n:=4) (by decide) (by decide)
   exact ⟨S,h3,by simp only [hc,ybY,ycC,e,zac],l,n⟩
  ·exact ⟨(List.range 4).map (zib st.toNat),h2,by simp only [hc,ybE,ya9,ych],by rw [yac,yaI],zpk _ (by omega)⟩
 obtain ⟨S,h3,e4,lS,nS⟩:=hS
 obtain ⟨t,h4,e5,t0,t1⟩:=zbR h3 (m:=3) (by decide) (by decide)
 obtain ⟨T,h5,e6,lT,nT⟩:=zrp h4 (n:=1+t) (by omega) (by omega)
 obtain ⟨n,h6,e7,n0,n1⟩:=zbR h5 (m:=4) (by decide) (by decide)
 obtain ⟨s,e8,h7,Rw,rfl,lR,nR,gR⟩:=ziC (body:=zex (T.map D.str,[.int h5]) ([.int h3],S.map D.str)) (ds:=rngD 0 (1+n).toNat) (s:=([.int h6],[])) (λk s=>∃ (h:Int) (Rw:List D),s=([.int h],Rw)/\Rw.length=k/\Rw.map zaE=S.take k/\∀ r∈Rw,GRow r) 0 ⟨h6,[],rfl,rfl,rfl,λ_ z=>absurd z yaF⟩ λj d s hd hs=>by
  obtain ⟨h,Rw,rfl,lR,nR,gR⟩:=hs
  obtain ⟨hj,rfl⟩:=zns hd
  rw [ybx] at lR nR ⊢
  rw [Int.zero_add]
  obtain ⟨h',R',e,l,nn,g⟩:=zv6 (y:=[.int h5]) (z:=[.int h3]) (by omega) (by omega) nT lS nS j (by omega) h Rw lR nR gR
  exact ⟨_,e,h',R',rfl,l,nn,g⟩
 rw [zf2,ybx] at lR
 obtain ⟨ps,ep,hps⟩:=zlo gR
 have nd:(Rw.map zaE).Nodup:=by
  rw [nR]
  exact List.Sublist.nodup (List.take_sublist _ _) nS.1
 have pm:=ybp Rw leD
 have sl:(zdt Rw).length=Rw.length:=pm.length_eq
 refine ⟨zdt Rw,h7,?_,⟨zku gR nd,by rw [sl]; omega,by rw [sl]; omega,λr hr=>gR r (pm.mem_iff.mp hr)⟩,λr hr => ?_⟩
 case refine_2 =>
  have:=yal.mpr ⟨r,pm.mem_iff.mp hr,(rfl:zaE r=zaE r)⟩
  rw [nR] at this
  exact (nS.2 _ (ybl this)).2.2
 simp only [e1,zac,zms (i:=4) (by decide) (by decide),em,em2,e3,nE_ii,e4,e5,zdA,fz_d,e6,e7,zms (i:=1+n) (by omega) (by omega),e8,zpm ep (zri hps),zpd]
theorem zv7 (h:Int):∃ rows h',zfI [.int h]=.ok (.tup rows,[.int h'])/\zg8 "" rows=true/\1<=rows.length/\rows.length<=4/\∀ r∈rows,GRow r:=by
 obtain ⟨rows,h',e,g,_⟩:=ztc h
 exact ⟨rows,h',e,g⟩
def portsD:D->D
 | .tup [_,p]=>p
 | _=>.non
theorem zrq {s:Str} (h:s = "+" \/ s = "-"):zjC s≠s/\zjC (zjC s)=s/\(zjC s = "+" \/ zjC s = "-"):=by
 rcases h with rfl | rfl<;>decide +kernel
theorem zow (ns:List Int) {k:Int} (hk:0<=k):∃ h,zd2 (.scr ns) (.int k)=.ok [.int h]:=zs9 hk
theorem zjF {β:Type} {body:D->Unit->(Unit->R β)->R β} {after:Unit->R β} {ds:List D} (h:∀ d∈ds,∀ K,body d () K=K ()):R.forN body after ds ()=after ():=by
 induction ds with
 | nil=>rfl
 | cons d ds ih=>rw [zjE,h d yaa,ih λx hx=>h x (yab _ hx)]
def leOf {α:Type} (lt:α->α->Bool) (a b:α):Bool:=!lt b a
abbrev End:=Int×Int
abbrev Wire:=End×End
def eD (e:End):D:=.tup [.int e.1,.int e.2]
def eK (e:End):List Key:=[.inl e.1,.inl e.2]
def eP (e:End):PyData:=.tuple [.int e.1,.int e.2]
def wD (w:Wire):D:=.tup [eD w.1,eD w.2]
def wP (w:Wire):PyData:=.tuple [eP w.1,eP w.2]
def ltE (a b:End):Bool:=decide (a.1<b.1\/(a.1=b.1/\a.2<b.2))
def ltW (a b:Wire):Bool:=if a.1=b.1 then ltE a.2 b.2 else ltE a.1 b.1
theorem eD_inj {a b:End} (h:eD a=eD b):a=b:=by
 obtain ⟨a1,a2⟩:=a
 obtain ⟨b1,b2⟩:=b
 unfold eD at h
 injection h with h
 injection h with h1 h
 injection h with h2 h
 injection h1 with h1
 injection h2 with h2
 subst h1 h2
 rfl
theorem zuk {a b:End} (h:eK a=eK b):a=b:=by
 obtain ⟨a1,a2⟩:=a
 obtain ⟨b1,b2⟩:=b
 unfold eK at h
 injection h with h1 h
 injection h with h2 h
 injection h1 with h1
 injection h2 with h2
 subst h1 h2
 rfl
theorem zrr {α:Type} {enc:α->D} {p:α->PyData} (h:∀ a,(enc a).py=some (p a)):∀ l:List α,D.pys (l.map enc)=some (l.map p)
 | []=>rfl
 | a::l=>by
   rw [yau,yau]
   unfold D.pys
   rw [h a,zrr h l]
theorem zrs {α β:Type} {f:α->β} (inj:∀ a b,f a=f b->a=b) {l:List α} (h:l.Nodup):(l.map f).Nodup:=ybH.mpr (h.imp λn e=>n (inj _ _ e))
def asE:D->Option End
 | .tup [x,y]=>match intD x,intD y with
   | some a,some b=>some (a,b)
   | _,_=>none
 | _=>none
def asW:D->Option Wire
 | .tup [x,y]=>match asE x,asE y with
   | some a,some b=>some (a,b)
   | _,_=>none
 | _=>none
def enF (j:Nat):List D->List D
 | []=>[]
 | d::ds=>.tup [.int (j:Nat),d]::enF (j+1) ds
theorem zv8 (ds:List D):enD ds=enF 0 ds:=by
 have h:∀ (ds:List D) (j:Nat),(ds.mapIdx λi d=>D.tup [.int ((i+j:Nat):Int),d])=enF j ds:=by
  intro ds
  induction ds with
  | nil=>exact λ_=>rfl
  | cons d ds ih =>
    intro j
    rw [List.mapIdx_cons]
    unfold enF
    rw [ybx,← ih (j+1)]
    congr 2
    funext i d
    rw [Nat.add_assoc,Nat.add_comm 1 j]
 exact h ds 0
theorem zv9 (ds:List D):zoY (.lst ds)=.ok (enF 0 ds):=by rw [← zv8]; rfl
def znw (b:Int) (j:Nat):List D->List (End×D)
 | []=>[]
 | d::ds=>((b,(j:Int)),d)::znw b (j+1) ds
theorem zjG {b:Int}:∀ {ds:List D} {j:Nat} {x:End×D},x∈znw b j ds->∃ k:Nat,j<=k/\k<j+ds.length/\x.1=(b,(k:Int))/\ds[k-j]?=some x.2
 | [],_,_,h=>nomatch h
 | d::ds,j,x,h=>by
   rcases yao.mp h with rfl | h
   ·exact ⟨j,yaw _,by simp,rfl,by simp⟩
   ·obtain ⟨k,h1,h2,h3,h4⟩:=zjG h
    refine ⟨k,by omega,by rw [yaq]; omega,h3,?_⟩
    rw [show k-j=(k-(j+1))+1 by omega,ycj]
    exact h4
def stkD (rows:List D):List (Key×D):=rows.map λr=>((Sum.inr (zaE r):Key),portsD r)
def zwa:D->List D
 | .tup ds=>ds
 | _=>[]
def zfU (rows:List D) (s:Str):List D:=zwa ((getK (stkD rows) (.inr s)).getD .non)
def ztd (rows:List D) (j:Nat):List Str->List (End×D)
 | []=>[]
 | s::ss=>znw (j:Int) 0 (zfU rows s)++ztd rows (j+1) ss
theorem zmx {rows:List D}:∀ {ss:List Str} {j:Nat} {x:End×D},x∈ztd rows j ss->∃ (k p:Nat) (s:Str),j<=k/\s∈ss/\ss[k-j]?=some s/\x.1=((k:Int),(p:Int))/\(zfU rows s)[p]?=some x.2
 | [],_,_,h=>nomatch h
 | s::ss,j,x,h=>by
   rcases yas.mp h with h | h
   ·obtain ⟨p,_,_,h3,h4⟩:=zjG h
    exact ⟨j,p,s,yaw _,yaa,by simp,h3,by simpa using h4⟩
   ·obtain ⟨k,p,t,h1,h2,h3,h4,h5⟩:=zmx h
    refine ⟨k,p,t,by omega,yab _ h2,?_,h4,h5⟩
    rw [show k-j=(k-(j+1))+1 by omega,ycj]
    exact h3
def zrt (rows:List D) (O:List D) (ss:List Str):List (End×D):=znw (-1) 0 O++ztd rows 0 ss
def zgi (L:List (End×D)):List (List Key×D):=L.map λx=>(eK x.1,x.2)
theorem zjH (L:List (End×D)):(zgi L).map (·.1)=(L.map (·.1)).map eK:=by
 unfold zgi
 rw [yaK,yaK]
 rfl
theorem mem_eK {e:End} {l:List End}:eK e∈l.map eK↔e∈l:=by
 constructor
 ·intro h
  obtain ⟨x,hx,y⟩:=yal.mp h
  rw [← zuk y]
  exact hx
 ·exact λh=>yal.mpr ⟨e,h,rfl⟩
theorem keyT_e (e:End):keyT (eD e)=some (eK e):=rfl
theorem zox {L:List (End×D)} {e:End} {v:D} (nd:(L.map (·.1)).Nodup) (h:(e,v)∈L):getK (zgi L) (eK e)=some v:=by
 refine zob ?_ (yal.mpr ⟨(e,v),h,rfl⟩)
 rw [zjH]
 exact zrs (λ_ _=>zuk) nd
theorem nIn_e (neg:Bool) (L:List (End×D)) (e:End):nIn neg (eD e) (.dT (zgi L))=.ok (xorB neg (decide (e∈L.map (·.1)))):=by
 show R.ok (xorB neg (getK (zgi L) (eK e)).isSome)=_
 rw [zi0,zjH]
 congr 2
 rw [yaW]
 exact mem_eK
theorem nIx_e {L:List (End×D)} {e:End} {v:D} (nd:(L.map (·.1)).Nodup) (h:(e,v)∈L):nIx (.dT (zgi L)) (eD e)=.ok v:=nIx_dT (keyT_e e) (zox nd h)
structure Stok (rows:List D):Prop where
 up:zg8 "" rows=true
 good:∀ r∈rows,GRow r
 few:1<=rows.length/\rows.length<=8
section
variable {rows:List D}
def pD (x:End×D):D:=.tup [eD x.1,x.2]
theorem zwb {f:D->R D} {b:Int} (hf:∀ (j:Int) (d:D),f (.tup [.int j,d])=.ok (pD ((b,j),d))):∀ (ds:List D) (j:Nat),lcM' f (enF j ds)=.ok ((znw b j ds).map pD)
 | [],_=>rfl
 | d::ds,j=>by
   unfold enF lcM' znw
   rw [hf,zwb hf ds (j+1)]
   rfl
theorem zru:∀ (ds:List D) (j:Nat),(enF j ds).length=ds.length
 | [],_=>rfl
 | _::ds,j=>yaX (· + 1) (zru ds (j+1))
end
theorem zkv {α:Type} {p:α->PyData} (hc:∀ a,(p a).canLay0=true):∀ l:List α,PyData.canLayAll0 (l.map p)=true
 | []=>rfl
 | a::l=>by
   rw [yau]
   unfold PyData.canLayAll0
   rw [hc a,zkv hc l]
   rfl
theorem zic {α:Type} {p:α->PyData} {n:Nat} (hd:∀ a,(p a).depth<=n):∀ l:List α,PyData.depthAll (l.map p)<=n
 | []=>ya4 _
 | a::l=>by
   rw [yau]
   unfold PyData.depthAll
   have:=zic hd l
   have:=hd a
   omega
theorem zwc {α:Type} {enc:α->D} {p:α->PyData} (h:∀ a,(enc a).py=some (p a)) (hc:∀ a,(p a).canLay0=true) (hd:∀ a,(p a).depth<=50) (l:List α):canD (.lst (l.map enc))=true:=by
 have e:(D.lst (l.map enc)).py=some (.list (l.map p)):=by
  show (D.pys (l.map enc)).map PyData.list=_
  rw [zrr h]
  rfl
 unfold canD
 rw [e]
 have h2:=zic hd l
 show (PyData.canLayAll0 (l.map p)&&decide (PyData.depthAll (l.map p)+1<=64))=true
 rw [zkv hc l,yaR]
 exact yaj (by omega)
def zlp:D->D
 | .tup [a,.str s]=>.tup [a,.str (zjC s)]
 | d=>d
theorem zrv {d:D} (h:zeK d):zla d=.ok (zlp d):=by
 obtain ⟨n,s,rfl,_⟩:=h
 unfold zla
 show _=R.ok (D.tup [.str n,.str (zjC s)])
 unfold zjC
 simp only [zjA,zjz,zac,nE_ss]
 by_cases h:s = "+" <;> simp [h]
theorem mateG {d:D} (h:zeK d):zeK (zlp d)/\zlp (zlp d)=d:=by
 obtain ⟨n,s,rfl,hn,hs⟩:=h
 obtain ⟨h1,h2,h3⟩:=zrq hs
 refine ⟨⟨n,zjC s,rfl,hn,h3⟩,?_⟩
 show D.tup [.str n,.str (zjC (zjC s))]=_
 rw [h2]
theorem zoy {d:D} (h:zeK d):Sm 1 d:=zvZ (zpl h)
theorem nEq_G (neg:Bool) {a b:D} (ha:zeK a) (hb:zeK b):nEq neg a b=.ok (if neg=true then !eqD a b else eqD a b):=nEq_of ((zoy ha).eqOk (zoy hb) (by decide) (by decide))
structure Ends (L:List (End×D)):Prop where
 nd:(L.map (·.1)).Nodup
 good:∀ x∈L,zeK x.2
 few:L.length<=10000
def atL (L:List (End×D)) (e:End):D:=(getK (zgi L) (eK e)).getD .non
section
variable {L:List (End×D)} {rows:List D}
theorem atL_of (E:Ends L) {e:End} {d:D} (h:(e,d)∈L):atL L e=d:=by
 unfold atL
 rw [zox E.nd h]
 rfl
theorem zul (E:Ends L) {e:End} (h:e∈L.map (·.1)):(e,atL L e)∈L/\zeK (atL L e):=by
 obtain ⟨x,hx,rfl⟩:=yal.mp h
 have:atL L x.1=x.2:=atL_of E (d:=x.2) hx
 rw [this]
 exact ⟨hx,E.good x hx⟩
def zum (L:List (End×D)) (w:Wire):Bool:=eqD (atL L w.1) (zlp (atL L w.2))
end
theorem zjI {α:Type} [DecidableEq α]:∀ (l k:List α),l.Nodup->(∀ x∈l,x∈k)->k.length<=l.length->l.Perm k
 | [],k,_,_,h=>by
   cases k with
   | nil=>exact .refl _
   | cons _ _=>exact absurd h (by simp)
 | x::l,k,nd,s,h=>by
   obtain ⟨n1,n2⟩:=ya8.mp nd
   have hx:=s x yaa
   have e:=List.length_erase_of_mem hx
   rw [yaq] at h
   refine ((zjI l (k.erase x) n2 (λy hy => ?_) (by omega)).cons x).trans (List.perm_cons_erase hx).symm
   exact (List.mem_erase_of_ne (λz:y=x=>n1 (by rw [← z]; exact hy))).mpr (s y (yab _ hy))
def zwd (d:D):Bool:=match asW d with
 | some w=>ltE w.1 w.2
 | none=>false
section
variable {L:List (End×D)}
def lawW (L:List (End×D)) (w:Wire):Bool:=decide (w.1∈L.map (·.1))&&decide (w.2∈L.map (·.1))&&zum L w
def flat (ws:List Wire):List End:=ws.flatMap λw=>[w.1,w.2]
theorem law_b1 (E:Ends L) (w:Wire) (M:List End) (hM:M.length<9000) (K:List D->R Bool):zde (zgi L) (wD w) (M.map eD) K=if lawW L w=true then K ((M++[w.1,w.2]).map eD) else .ok false:=by
 unfold zde
 have ew:nUn2 (wD w)=.ok (eD w.1,eD w.2):=rfl
 have ex:nExt (M.map eD) (.lst [eD w.1,eD w.2])=.ok ((M++[w.1,w.2]).map eD):=by
  rw [zvO (by rw [yac,yaq,yaq,ya2]; omega),yba]
  rfl
 rw [ew,zac]
 dsimp only
 rw [ex,zac,nIn_e,zac,nIn_e]
 simp only [zac,xorB]
 by_cases h2:w.1∈L.map (·.1)
 case neg =>
  have:lawW L w=false:=by
   unfold lawW
   rw [yaN h2]
   rfl
  rw [this,yaN h2]
  rfl
 by_cases h3:w.2∈L.map (·.1)
 case neg =>
  have:lawW L w=false:=by
   unfold lawW
   rw [yaN h3]
   simp
  rw [this,yaN h3,yaj h2]
  rfl
 obtain ⟨m1,g1⟩:=zul E h2
 obtain ⟨m2,g2⟩:=zul E h3
 rw [yaj h2,yaj h3,nIx_e E.nd m1,zac,nIx_e E.nd m2,zac,zrv g2,zac,nEq_G true g1 (mateG g2).1]
 unfold lawW zum
 rw [yaj h2,yaj h3]
 cases eqD (atL L w.1) (zlp (atL L w.2))<;>rfl
theorem zwe (E:Ends L) {after:List D->R Bool}:∀ (ws:List Wire) (M:List End),M.length+2*ws.length<=8000 ->
 R.forN (zde (zgi L)) after (ws.map wD) (M.map eD)=if ws.all (lawW L)=true then after ((M++flat ws).map eD) else .ok false
 | [],M,_=>by
   show after _=after _
   unfold flat
   rw [List.flatMap_nil,yaE]
 | w::ws,M,hl=>by
   rw [yaq] at hl
   rw [yau,zjE,law_b1 E w M (by omega),ybQ]
   cases h:lawW L w with
   | false=>rfl
   | true =>
     rw [yaM rfl,zwe E ws _ (by rw [yax,yaq,yaq,ya2]; omega),yaR]
     unfold flat
     rw [List.flatMap_cons,yah]
def rightW (L:List (End×D)) (ws:List Wire):Bool:=ws.all (lawW L)&&decide ((flat ws).mergeSort (leOf ltE)=(L.map (·.1)).mergeSort (leOf ltE))&&decide (ws=ws.mergeSort (leOf ltW))
def lawAll (L:List (End×D)) (ds:List D):Bool:=ds.all zwd&&rightW L (ds.filterMap asW)
theorem zfh {ws:List Wire} {e:End}:e∈flat ws↔∃ w∈ws,e=w.1\/e=w.2:=by
 unfold flat
 rw [yaV]
 constructor
 ·rintro ⟨w,hw,h⟩
  refine ⟨w,hw,?_⟩
  rcases yao.mp h with h | h
  ·exact .inl h
  ·exact .inr (yar.mp h)
 ·rintro ⟨w,hw,h⟩
  refine ⟨w,hw,?_⟩
  rcases h with rfl | rfl<;>simp
end
def wiresR (L:List (End×D)):D->Bool
 | .tup ds=>lawAll L ds
 | _=>false
def asR:D->Option (Str×Int)
 | .tup [.str s,.int m]=>if zaK s=true then some (s,m) else none
 | _=>none
def znx:Str->List D->Bool
 | _,[]=>true
 | a,d::ds=>match asR d with
   | none=>false
   | some (s,m)=>decide (1<=m)&&ltS a s&&znx s ds
theorem zid:∀ ns:List Str,zd8 (ns.map D.str)=some (ns.map V.str)
 | []=>rfl
 | n::ns=>by
   rw [yau]
   unfold zd8
   rw [zid ns]
   rfl
theorem zte (s:Str) (ns:List Str):inV (V.str s) (ns.map V.str)=decide (s∈ns):=by
 unfold inV
 induction ns with
 | nil=>rfl
 | cons n ns ih =>
   rw [yau,ybP,ih]
   rw [ybg,yaZ,yak,yak,yao]
   have e:eqV (V.str n) (V.str s)=true↔s=n:=by
    show (n==s)=true↔_
    rw [yct]
    exact eq_comm
   rw [e]
theorem zwf:100000<most:=by
 unfold most
 decide
theorem zkw {σ β:Type} {body:σ->(σ->R β)->(σ->R β)->R β} {after:σ->R β} (I:σ->Prop) (μ:σ->Nat) (Done:σ->Prop)
 (step:∀ s,I s->(Done s/\∀ K A,body s K A=A s)\/∃ s',I s'/\μ s'<μ s/\∀ K A,body s K A=K s'):∀ (N:Nat) (s:σ),I s->μ s<N->∃ s',I s'/\Done s'/\R.whileN body after N s=after s'
 | 0,s,_,h=>absurd h (Nat.not_lt_zero _)
 | N+1,s,hi,h=>by
   unfold R.whileN
   rcases step s hi with ⟨d,e⟩ | ⟨s',i',l,e⟩
   ·exact ⟨s,hi,d,e _ _⟩
   ·obtain ⟨s2,i2,d2,e2⟩:=zkw I μ Done step N s' i' (by omega)
    exact ⟨s2,i2,d2,by rw [e,e2]⟩
theorem zny {xs:List D} (c:canD (.lst xs)=true):nEq true (.lst xs) (.lst ([]:List D))=.ok (!xs.isEmpty):=by
 rw [zvR (zm3 c (by decide +kernel))]
 congr 2
 unfold canD at c
 unfold eqD
 have e:(D.lst xs).py=(D.pys xs).map PyData.list:=rfl
 rw [e] at c ⊢
 cases h:D.pys xs with
 | none =>
   rw [h] at c
   cases c
 | some ps =>
   cases xs with
   | nil=>cases h; rfl
   | cons x xs =>
     cases ps with
     | nil =>
       unfold D.pys at h
       split at h<;>simp at h
     | cons p ps=>rfl
theorem zwg {ds:List D} {i:Int} (h0:0<=i) (h1:i<ds.length) (hl:ds.length<=100000):∃ d,ds[i.toNat]?=some d/\nPop ds (.int i)=.ok (d,ds.eraseIdx i.toNat):=by
 have hj:i.toNat<ds.length:=by omega
 refine ⟨ds[i.toNat],yad hj,?_⟩
 unfold nPop
 have e1:seqIndex? i ds.length=some i.toNat:=by
  have n0:¬ i<0:=by omega
  simp [seqIndex?,n0,h0,h1]
 show need (decide (-(2 ^ 63)<=i)&&decide (i<2 ^ 63)) ((ofO (seqIndex? i ds.length)).bind _)=_
 rw [zaV (by rw [yaj (by omega),yaj (by omega)]; rfl),e1]
 show (ofO ds[i.toNat]?).bind _=_
 rw [yad hj]
 rfl
theorem zkx {α:Type}:∀ {l:List α} {k:Nat} {x:α},l[k]?=some x->l.Perm (x::l.eraseIdx k)
 | [],_,_,h=>by simp at h
 | y::l,0,x,h=>by
   simp at h
   subst h
   exact .refl _
 | y::l,k+1,x,h=>by
   have ih:=zkx (l:=l) (k:=k) (by simpa using h)
   exact (ih.cons y).trans (.swap _ _ _)
theorem zmy {α β:Type} (f:α->β):∀ (l:List α) (k:Nat),(l.map f).eraseIdx k=(l.eraseIdx k).map f
 | [],_=>rfl
 | _::_,0=>rfl
 | y::l,k+1=>yaX (f y :: ·) (zmy f l k)
theorem ztf (l:List Nat):canD (.lst (l.map λn:Nat=>D.int (n:Int)))=true:=zwc (enc:=λn:Nat=>D.int (n:Int)) (p:=λn:Nat=>PyData.int (n:Int)) (λ_=>rfl) (λ_=>rfl) (λ_=>by show (0:Nat)<=50; decide) l
abbrev nD (n:Nat):D:=.int (n:Int)
theorem ztg {n:Nat} (h:n<=1000):(n:Int)<1073741824:=yb8 (Int.ofNat_le.mpr h) (by decide)
theorem zth {i:Int} (P:Int->Bool) (f:Int->R (List D)):((ofO (intD (.int i))).bind λj=>need (P j) (f j))=need (P i) (f i):=rfl
theorem nLr1_n {N:Nat} (hN:N<=1000):nLr1 (.int (N:Int))=.ok ((List.range N).map nD):=by
 have r:rngB (N:Int):=zvV (yb9 _) (yb8 (Int.ofNat_le.mpr hN) (by decide))
 have r2:(N:Int)<=16777216:=Int.le_trans (Int.ofNat_le.mpr hN) (by decide)
 have c:(decide (rngB (N:Int))&&decide ((N:Int)<=16777216))=true:=yaL.mpr ⟨yaj r,yaj r2⟩
 have e:=zth (i:=(N:Int)) (λj=>decide (rngB j)&&decide (j<=16777216)) (λj=>.ok (rngD 0 j.toNat))
 unfold nLr1
 rw [e,zaV c,yaS,zmt]
theorem zwh (h:Int) {N:Nat} (hN:N<=1000):∃ (p:List Nat) (h':Int),zfJ [.int h] (.int (N:Int))=.ok (p.map nD,[.int h'])/\p.Perm (List.range N):=by
 unfold zfJ
 have e0:=nLr1_n hN
 rw [e0,zac]
 obtain ⟨s',⟨h',l,f,e1,e2⟩,d,e3⟩:=zkw (body:=zey) (after:=λ(s_2:List D×List D×List D)=>R.ok (s_2.2.2,s_2.1))
  (λs=>∃ (h:Int) (l f:List Nat),s=([.int h],l.map nD,f.map nD)/\(f++l).Perm (List.range N)) (λs=>s.2.1.length) (λs=>s.2.1=[]) (λs ⟨h,l,f,e,p⟩=>by
   subst e
   have hlen:f.length+l.length=N:=by
    have:=p.length_eq
    rw [yax,yaI] at this
    exact this
   cases l with
   | nil =>
     refine .inl ⟨rfl,λK A => ?_⟩
     unfold zey
     show R.bind (nEq true (.lst []) (.lst [])) _=_
     rw [zny (by decide +kernel),zac]
     rfl
   | cons x l =>
     obtain ⟨i,h',e4,i0,i1⟩:=zbR h (m:=((x::l).length:Nat)) (by rw [yaq]; omega) (ztg (by rw [yaq] at hlen ⊢; omega))
     have lm:((x::l).map nD).length=(x::l).length:=yac _
     obtain ⟨d,e5,e6⟩:=zwg (ds:=(x::l).map nD) i0 (by rw [lm]; exact i1) (by rw [lm,yaq]; rw [yaq] at hlen; omega)
     rw [yaA] at e5
     obtain ⟨y,hy,rfl⟩:=yaJ.mp e5
     have hj:i.toNat<(x::l).length:=(yaf.mp hy).1
     refine .inr ⟨([.int h'],((x::l).eraseIdx i.toNat).map nD,(f++[y]).map nD),⟨h',_,_,rfl,?_⟩,?_,λK A => ?_⟩
     ·refine List.Perm.trans ?_ p
      rw [yah]
      exact ((zkx hy).symm).append_left f
     ·show (((x::l).eraseIdx i.toNat).map nD).length<((x::l).map nD).length
      rw [yac,yac,List.length_eraseIdx,yaM hj]
      omega
     ·unfold zey
      dsimp only
      rw [zny (ztf _),zac,yaM (by rfl),zeB,zac,lm,e4,zac]
      dsimp only
      rw [e6,zac,znr (by rw [yac]; rw [yaq] at hlen; omega),zac,zmy,yba]
      rfl) most ([.int h],(List.range N).map nD,([]:List D)) ⟨h,List.range N,[],rfl,.refl _⟩ (by
   show ((List.range N).map nD).length<most
   rw [yac,yaI]
   have:=zwf
   omega)
 rw [e3,e1]
 subst e1
 have d:l.map nD=[]:=d
 rw [List.map_eq_nil_iff] at d
 subst d
 rw [yaE] at e2
 exact ⟨f,h',rfl,e2⟩
abbrev Joint:=(End×D)×(End×D)
theorem zjJ {f:D->R (Option D)} {p:Nat->Bool}:∀ (l:List Nat),(∀ k∈l,f (nD k)=.ok (if p k=true then some (nD k) else none))->lcF' f (l.map nD)=.ok ((l.filter p).map nD)
 | [],_=>rfl
 | k::l,h=>by
   rw [yau]
   unfold lcF'
   rw [h k yaa,zjJ l λx hx=>h x (yab _ hx),List.filter_cons]
   cases p k<;>rfl
theorem zky {f:D->R (Option D)} {p:Nat->Bool} (l:List Nat) (hl:l.length<=1000) (h:∀ k∈l,f (nD k)=.ok (if p k=true then some (nD k) else none)):lcF f (l.map nD)=.ok ((l.filter p).map nD):=by
 unfold lcF
 rw [zaV (zdX (by rw [yac,zcn]; omega)),zjJ l h]
inductive Lk where
 | ende (e:End)
 | bare
 | to (j:Nat)
abbrev Slot:=D×Lk
def qSl (Q:List (End×D)):List Slot:=Q.map λx=>(zlp x.2,.ende x.1)
def bSl:Nat->List D->List Slot
 | _,[]=>[]
 | k,c::cs=>(c,.bare)::(zlp c,.to k)::bSl (k+2) cs
def pn (p:List Nat) (k:Nat):Nat:=p[k]?.getD 0
def zmz (p:List Nat):Nat->List Slot->List D->List D
 | _,[],os=>os
 | k,s::ss,os=>zmz p (k+1) ss (os.set (pn p k) s.1)
theorem zie (p:List Nat) {i:Nat}:∀ (ss:List Slot) (k:Nat) (os:List D),(∀ j,k<=j->j<k+ss.length->pn p j≠i)->(zmz p k ss os)[i]?=os[i]?
 | [],_,_,_=>rfl
 | s::ss,k,os,h=>by
   show (zmz p (k+1) ss (os.set (pn p k) s.1))[i]?=_
   rw [zie p ss (k+1) _ λj h1 h2=>h j (by omega) (by rw [yaq]; omega),yaB (h k (yaw _) (by rw [yaq]; omega))]
theorem zrw (p:List Nat):∀ (ss:List Slot) (k:Nat) (os:List D),(∀ i j,k<=i->i<j->j<k+ss.length->pn p i≠pn p j)->(∀ i,k<=i->i<k+ss.length->pn p i<os.length)->∀ j s,ss[j]?=some s->(zmz p k ss os)[pn p (k+j)]?=some s.1
 | [],_,_,_,_,j,s,h=>by simp at h
 | s0::ss,k,os,hd,hl,0,s,h=>by
   have h:some s0=some s:=h
   cases h
   show (zmz p (k+1) ss (os.set (pn p k) s0.1))[pn p k]?=_
   rw [zie p ss (k+1) _ λj h1 h2=>λe=>hd k j (yaw _) (by omega) (by rw [yaq]; omega) e.symm,yaO (hl k (yaw _) (by rw [yaq]; omega))]
 | s0::ss,k,os,hd,hl,j+1,s,h=>by
   have h:ss[j]?=some s:=h
   have:=zrw p ss (k+1) (os.set (pn p k) s0.1) (λi j h1 h2 h3=>hd i j (by omega) h2 (by rw [yaq]; omega)) (λi h1 h2=>by rw [ybn]; exact hl i (by omega) (by rw [yaq]; omega)) j s h
   rw [show k+1+j=k+(j+1) by omega] at this
   exact this
section
variable {p:List Nat} {N:Nat}
theorem zwi (hp:p.Perm (List.range N)) {k:Nat} (hk:k<N):p[k]?=some (pn p k):=by
 have l:p.length=N:=by rw [hp.length_eq,yaI]
 unfold pn
 rw [yad (by omega)]
 rfl
theorem pn_lt (hp:p.Perm (List.range N)) {k:Nat} (hk:k<N):pn p k<N:=yav.mp (hp.mem_iff.mp (yaP (zwi hp hk)))
theorem zlq {b:Int}:∀ {ds:List D} {j i:Nat} {d:D},ds[i]?=some d->((b,((j+i:Nat):Int)),d)∈znw b j ds
 | [],_,_,_,h=>by simp at h
 | d0::ds,j,0,d,h=>by
   have h:some d0=some d:=h
   cases h
   exact yaa
 | d0::ds,j,i+1,d,h=>by
   have h:ds[i]?=some d:=h
   have:=zlq (b:=b) (j:=j+1) h
   rw [show j+1+i=j+(i+1) by omega] at this
   exact yab _ this
end
def slots (Q:List (End×D)) (cs:List D):List Slot:=qSl Q++bSl Q.length cs
def mates (L:List (End×D)) (w:Wire):Prop:=∃ d1 d2,(w.1,d1)∈L/\(w.2,d2)∈L/\d1=zlp d2
def sw (w:Wire):Wire:=if leOf ltE w.1 w.2=true then w else (w.2,w.1)
theorem ziE {s t:List D} (h:s.length+t.length<=1000):zcf (.lst s) (.lst t)=.ok (s++t):=zaV (zdX (by rw [zcn]; omega))
def netD (O:List D) (ss:List Str) (ws:List Wire) (rs:List D):D:=.tup [.tup O,.tup (ss.map D.str),.tup (ws.map wD),.tup rs]
section
variable {rows:List D}
def zti (ws:List Wire):List (End×D):=ws.flatMap λw=>[(w.1,eD w.2),(w.2,eD w.1)]
theorem zkz:∀ ws:List Wire,(zti ws).map (·.1)=flat ws
 | []=>rfl
 | w::ws=>by
   show w.1::w.2::(zti ws).map (·.1)=w.1::w.2::flat ws
   rw [zkz ws]
end
def inb (n:Nat) (e:End):Prop:=e.1=-1\/(0<=e.1/\e.1<n)
structure NV (O:List D) (ss:List Str) (ws:List Wire) (rs:List D):Prop where
 gO:∀ d∈O,zeK d
 lO:O.length<=100
 ls:ss.length<=150
 sS:∀ s∈ss,zaK s=true
 ends:∀ w∈ws,inb ss.length w.1/\inb ss.length w.2
 lw:ws.length<=400
 gR:∀ d∈rs,Sm 1 d/\nob d=true
 lR:rs.length<=700
theorem zun:∀ (p:List Nat) (b:Nat),b∈p->∃ j,idxV (V.int (b:Int)) (p.map λ(n:Nat)=>V.int (n:Int))=some j/\p[j]?=some b
 | [],_,h=>nomatch h
 | a::p,b,h=>by
   unfold idxV
   rw [yau]
   dsimp only
   by_cases e:a=b
   ·subst e
    refine ⟨0,yaM ?_,rfl⟩
    show ((a:Int)==(a:Int))=true
    exact beq_self_eq_true _
   ·have ne:¬ eqV (V.int (a:Int)) (V.int (b:Int))=true:=λz=>by
     have z:((a:Int)==(b:Int))=true:=z
     rw [yct] at z
     exact e (Int.ofNat.inj z)
    rw [yaH ne]
    obtain ⟨j,h1,h2⟩:=zun p b ((yao.mp h).resolve_left λz=>e z.symm)
    exact ⟨j+1,by rw [h1]; rfl,h2⟩
theorem zmA:∀ p:List Nat,zd8 (p.map nD)=some (p.map λ(n:Nat)=>V.int (n:Int))
 | []=>rfl
 | n::p=>by
   rw [yau]
   unfold zd8
   rw [zmA p]
   rfl
theorem again {p:List Nat} {n:Nat} (hp:p.Perm (List.range n)) (hn:n<=1000):∃ q:List Nat,lcM (λd_4:D=>nLIx (.lst (p.map nD)) d_4) (rngD 0 n)=.ok (q.map nD)/\q.Perm (List.range n)/\(∀ k,k<n->pn q (pn p k)=k)/\∀ k,k<n->pn p (pn q k)=k:=by
 have nd:p.Nodup:=hp.nodup_iff.mpr ybW
 have lp:p.length=n:=by rw [hp.length_eq,yaI]
 obtain ⟨ix,hix⟩:∃ ix:Nat->Nat,∀ b,b<n->nLIx (.lst (p.map nD)) (nD b)=.ok (nD (ix b))/\p[ix b]?=some b:=by
  refine ⟨λb=>(idxV (V.int (b:Int)) (p.map λ(n:Nat)=>V.int (n:Int))).getD 0,λb hb => ?_⟩
  obtain ⟨j,h1,h2⟩:=zun p b (hp.mem_iff.mpr (yav.mpr hb))
  dsimp only
  rw [h1]
  refine ⟨?_,h2⟩
  unfold nLIx
  dsimp only
  rw [zmA]
  show (match idxV (V.int (b:Int)) (p.map λ(n:Nat)=>V.int (n:Int)) with
   | some j=>R.ok (D.int (j:Nat))
   | none=>.no)=_
  rw [h1]
  rfl
 have lt:∀ b,b<n->ix b<n:=λb hb=>by
  have:=(yaf.mp (hix b hb).2).1
  omega
 have pq:∀ b,b<n->pn p (ix b)=b:=λb hb=>by
  have:=zwi hp (lt b hb)
  rw [(hix b hb).2] at this
  exact (yaQ this).symm
 have qi:∀ b,b<n->pn ((List.range n).map ix) b=ix b:=λb hb=>by
  unfold pn
  rw [yaA,ybd hb]
  rfl
 refine ⟨(List.range n).map ix,?_,?_,λk hk => ?_,λk hk=>by rw [qi k hk]; exact pq k hk⟩
 ·rw [zmt,yaK]
  have key:∀ l:List Nat,(∀ b∈l,b<n)->lcM' (λd_4:D=>nLIx (.lst (p.map nD)) d_4) (l.map λ(k:Nat)=>D.int k)=.ok (l.map (nD∘ix)):=by
   intro l
   induction l with
   | nil=>exact λ_=>rfl
   | cons b l ih =>
     intro h
     rw [yau]
     unfold lcM'
     have e:=(hix b (h b yaa)).1
     rw [show D.int ((b:Nat):Int)=nD b from rfl,e,ih λx hx=>h x (yab _ hx)]
     rfl
  unfold lcM
  rw [zaV (zdX (by rw [yac,yaI,zcn]; omega)),key _ λb hb=>yav.mp hb]
 ·refine zjI _ _ ?_ (λx hx => ?_) (by rw [yac]; exact yaw _)
  ·refine ybH.mpr ?_
   refine (List.pairwise_lt_range (n:=n)).imp_of_mem λ{a b} ha hb h e => ?_
   have h1:=pq a (yav.mp ha)
   have h2:=pq b (yav.mp hb)
   rw [e,h2] at h1
   omega
  ·obtain ⟨b,hb,rfl⟩:=yal.mp hx
   exact yav.mpr (lt b (yav.mp hb))
 ·have hk2:=pn_lt hp hk
  rw [qi _ hk2]
  have h1:=(hix _ hk2).2
  rw [← zwi hp hk] at h1
  exact (List.getElem?_inj (by have:=lt _ hk2; omega) nd).mp h1
section
variable {rows:List D}
def ztj (rows O:List D) (ss:List Str):List End:=(zrt rows O ss).map (·.1)
theorem zoz:∀ {ss:List Str} {j k p:Nat} {s:Str} {d:D},ss[k]?=some s->(zfU rows s)[p]?=some d->((((j+k:Nat):Int),(p:Int)),d)∈ztd rows j ss
 | [],_,_,_,_,_,h,_=>by simp at h
 | s0::ss,j,0,p,s,d,h,hd=>by
   have h:some s0=some s:=h
   cases h
   have:=zlq (b:=(j:Int)) (j:=0) hd
   rw [ybx] at this
   exact yan _ this
 | s0::ss,j,k+1,p,s,d,h,hd=>by
   have h:ss[k]?=some s:=h
   have:=zoz (j:=j+1) h hd
   rw [show j+1+k=j+(k+1) by omega] at this
   exact yag _ this
theorem zlr {O:List D} {ss:List Str} {e:End}:e∈ztj rows O ss↔(∃ k:Nat,k<O.length/\e=(-1,(k:Int)))\/∃ (k p:Nat) (s:Str),ss[k]?=some s/\p<(zfU rows s).length/\e=((k:Int),(p:Int)):=by
 constructor
 ·intro h
  obtain ⟨x,hx,rfl⟩:=yal.mp h
  rcases yas.mp hx with hx | hx
  ·obtain ⟨k,_,h2,e,_⟩:=zjG hx
   exact .inl ⟨k,by omega,e⟩
  ·obtain ⟨k,p,s,_,_,e1,e2,e3⟩:=zmx hx
   rw [yb3] at e1
   exact .inr ⟨k,p,s,e1,(yaf.mp e3).1,e2⟩
 ·rintro (⟨k,hk,rfl⟩ | ⟨k,p,s,h1,h2,rfl⟩)
  ·have:=zlq (b:=-1) (j:=0) (yad hk)
   rw [ybx] at this
   exact yal.mpr ⟨_,yan _ this,rfl⟩
  ·have:=zoz (rows:=rows) (j:=0) h1 (yad h2)
   rw [ybx] at this
   exact yal.mpr ⟨_,yag _ this,rfl⟩
end
theorem zwj {m:Int} (h1:1<=m) (h2:m<=63):∃ ds,nR3 (.int 0) (.int m) (.int 2)=.ok ds/\∀ d∈ds,∃ c:Int,0<=c/\d=.int c:=by
 have e0:Builtin.Range.rangeSize 0 m 2=(m-0-1) / 2+1:=by
  unfold Builtin.Range.rangeSize
  rw [yaM (by decide),yaM (by omega)]
 refine ⟨rngC 0 2 (Builtin.Range.rangeSize 0 m 2).toNat,?_,λd hd => ?_⟩
 ·unfold nR3
  simp only [intD,ofO,R.bind]
  refine zaV ?_
  have s:Builtin.Range.small 0 m 2=true:=by
   unfold Builtin.Range.small
   have fits:∀ i:Int,0<=i->i<=1000->Builtin.Range.rangeFitsLong i=true:=λi i0 i1=>by
    unfold Builtin.Range.rangeFitsLong
    rw [yap]
    exact ⟨yaj (Int.le_trans (by decide) i0),yaj (yb8 i1 (by decide))⟩
   rw [e0,fits 0 (by decide) (by decide),fits m (by omega) (by omega),fits 2 (by decide) (by decide),fits ((m-0-1) / 2+1) (by omega) (by omega),yaM (by decide),fits (m+(2-1)) (by omega) (by omega),Bool.or_true]
   rfl
  rw [s,e0]
  have:(0:Int)<=(m-0-1) / 2+1:=by omega
  rw [yaj this]
  decide
 ·unfold rngC at hd
  obtain ⟨k,hk,rfl⟩:=yal.mp hd
  exact ⟨_,by omega,rfl⟩
def Pr (ws:List Wire) (e d:End):Prop:=∃ w∈ws,(e=w.1/\d=w.2)\/(e=w.2/\d=w.1)
theorem Pr.symm {ws:List Wire} {e d:End} (h:Pr ws e d):Pr ws d e:=by
 obtain ⟨w,hw,⟨h1,h2⟩ | ⟨h1,h2⟩⟩:=h
 ·exact ⟨w,hw,.inr ⟨h2,h1⟩⟩
 ·exact ⟨w,hw,.inl ⟨h2,h1⟩⟩
theorem pr_ex {ws:List Wire} {e:End} (h:e∈flat ws):∃ d,Pr ws e d:=by
 obtain ⟨w,hw,rfl | rfl⟩:=zfh.mp h
 ·exact ⟨w.2,w,hw,.inl ⟨rfl,rfl⟩⟩
 ·exact ⟨w.1,w,hw,.inr ⟨rfl,rfl⟩⟩
theorem Pr.mem {ws:List Wire} {e d:End} (h:Pr ws e d):e∈flat ws/\d∈flat ws:=by
 obtain ⟨w,hw,⟨rfl,rfl⟩ | ⟨rfl,rfl⟩⟩:=h
 ·exact ⟨zfh.mpr ⟨w,hw,.inl rfl⟩,zfh.mpr ⟨w,hw,.inr rfl⟩⟩
 ·exact ⟨zfh.mpr ⟨w,hw,.inr rfl⟩,zfh.mpr ⟨w,hw,.inl rfl⟩⟩
theorem Pr.part {ws:List Wire} {e d:End} (h:Pr ws e d):(e,eD d)∈zti ws:=by
 obtain ⟨w,hw,⟨rfl,rfl⟩ | ⟨rfl,rfl⟩⟩:=h
 ·exact yaV.mpr ⟨w,hw,by simp⟩
 ·exact yaV.mpr ⟨w,hw,by simp⟩
theorem zrx {ws:List Wire} (nd:(flat ws).Nodup):((zti ws).map (·.1)).Nodup:=by rw [zkz]; exact nd
theorem Pr.uniq {ws:List Wire} (nd:(flat ws).Nodup) {e d d':End} (h:Pr ws e d) (h':Pr ws e d'):d=d':=by
 have h1:=zox (zrx nd) h.part
 have h2:=zox (zrx nd) h'.part
 rw [h1] at h2
 exact eD_inj (yaQ h2)
def cal (f:Nat->Nat) (e:End):End:=if e.1=-1 then e else ((f e.1.toNat:Nat),e.2)
structure Ports (ks:List Str) (ws:List Wire) (np:Str->Nat):Prop where
 nd:(flat ws).Nodup
 out:∀ e∈flat ws,e.1=-1\/∃ (k p:Nat) (s:Str),ks[k]?=some s/\p<np s/\e=((k:Int),(p:Int))
 all:∀ (k p:Nat) (s:Str),ks[k]?=some s->p<np s->(((k:Int),(p:Int)):End)∈flat ws
 few:ks.length<=150
 lw:ws.length<=400
structure Lays (kP:List Str) (wP:List Wire) (k2:List Str) (w2:List Wire) (f:Nat->Nat):Prop where
 kind:∀ (k:Nat) (s:Str),kP[k]?=some s->k2[f k]?=some s
 inj:∀ j k,j<kP.length->k<kP.length->f j=f k->j=k
 wire:∀ e d,Pr wP e d->Pr w2 (cal f e) (cal f d)
section
variable {kP k2:List Str} {wP w2:List Wire} {np:Str->Nat} {b:Nat}
def Done1 (wP w2:List Wire) (ord:List Nat) (f:Nat->Nat) (k p:Nat):Prop:=∀ d,Pr wP ((k:Int),(p:Int)) d->Pr w2 ((f k:Nat),(p:Int)) (cal f d)/\(d.1≠-1->d.1.toNat∈ord)
def upF (f:Nat->Nat) (c x:Nat):Nat->Nat:=λk=>if k=c then x else f k
theorem upF_ne {f:Nat->Nat} {c x k:Nat} (h:k≠c):upF f c x k=f k:=by
 unfold upF
 exact yaH h
theorem zuo {l:List Nat} {c k:Nat} (hc:c∉l) (hk:k∈l):k≠c:=λz=>hc (z▸hk)
theorem cal_up {f:Nat->Nat} {c x:Nat} {d:End} (h:d.1≠-1->d.1.toNat≠c):cal (upF f c x) d=cal f d:=by
 unfold cal upF
 by_cases e:d.1=-1
 ·rw [yaM e,yaM e]
 ·rw [yaH e,yaH e,yaH (h e)]
theorem Done1.up {ord:List Nat} {f:Nat->Nat} {k p c x:Nat} (h:Done1 wP w2 ord f k p) (hk:k∈ord) (hc:c∉ord):Done1 wP w2 (ord++[c]) (upF f c x) k p:=λd hd=>by
 obtain ⟨h1,h2⟩:=h d hd
 have ek:upF f c x k=f k:=upF_ne (zuo hc hk)
 rw [ek,cal_up λz=>zuo hc (h2 z)]
 exact ⟨h1,λz=>yan _ (h2 z)⟩
end
section
variable {kP k2:List Str} {wP w2:List Wire} {np:Str->Nat} {b:Nat}
def Hang (kP:List Str) (wP:List Wire):Prop:=∀ S:Nat->Prop,S 0->(∀ (k p:Nat) (d:End),S k->Pr wP ((k:Int),(p:Int)) d->d.1≠-1->S d.1.toNat)->∀ k,k<kP.length->S k
end
def rowT (r:List Nat):D:=.tup (r.map nD)
def fnR (r:List Nat) (k:Nat):Nat:=r[k]?.getD 0
theorem zup {r:List Nat} {k:Nat} (h:k<r.length):r[k]?=some (fnR r k):=by
 unfold fnR
 rw [yad h]
 rfl
def inF (F:List Nat) (i:Int):Bool:=F.any λn=>decide ((n:Int)=i)
theorem zwk {F:List Nat} {i:Int}:inF F i=true↔∃ n∈F,(n:Int)=i:=by
 unfold inF
 rw [yck]
 constructor
 ·rintro ⟨n,h,e⟩
  exact ⟨n,h,yai e⟩
 ·rintro ⟨n,h,e⟩
  exact ⟨n,h,yaj e⟩
theorem zry {F:List Nat} {m:Nat} (nd:F.Nodup) (lt:∀ x∈F,x<m):F.length<=m:=by
 have:=(nd.length_le_of_subset (l₂:=List.range m)) λx hx=>yav.mpr (lt x hx)
 rwa [yaI] at this
def npR (rows:List D) (s:Str):Nat:=(zfU rows s).length
structure PV (rows:List D) (kP:List Str) (wP:List Wire):Prop where
 kinds:∀ s∈kP,s∈rows.map zaE
 pos:1<=kP.length
 six:kP.length<=6
 nd:(flat wP).Nodup
 out:∀ e∈flat wP,e.1=-1\/∃ (k p:Nat) (s:Str),kP[k]?=some s/\p<npR rows s/\e=((k:Int),(p:Int))
 lt:∀ w∈wP,ltE w.1 w.2=true
 box:∀ w∈wP,w.2.1≠-1
 lw:wP.length<=100
def ixO (o:List Nat) (k:Nat):Nat:=(idxV (V.int (k:Int)) (o.map λ(n:Nat)=>V.int (n:Int))).getD 0
def incW (o:List Nat) (w:Wire):Bool:=inF o w.1.1||inF o w.2.1
def calW (o:List Nat) (w:Wire):Wire:=sw (cal (ixO o) w.1,cal (ixO o) w.2)
theorem zif {α β:Type} {f:α->β} {l:List α} (h:∀ a∈l,∀ b∈l,f a=f b->a=b) (nd:l.Nodup):(l.map f).Nodup:=by
 refine ybH.mpr ?_
 exact ycd (λ{a b} ha hb n e=>n (h a ha b hb e)) nd
section
variable {rows:List D} {kP:List Str} {wP:List Wire}
theorem PV.ge (V:PV rows kP wP) {e:End} (h:e∈flat wP):-1<=e.1:=by
 rcases V.out e h with h | ⟨k,p,s,_,_,rfl⟩
 ·omega
 ·show -1<=((k:Nat):Int)
  omega
end
def par (ws:List Wire) (e:End):End:=match ws.find? (λw=>decide (w.1=e)||decide (w.2=e)) with
 | some w=>if w.1=e then w.2 else w.1
 | none=>e
theorem zrz {ws:List Wire} {e:End} (h:e∈flat ws):Pr ws e (par ws e):=by
 unfold par
 cases c:ws.find? (λw=>decide (w.1=e)||decide (w.2=e)) with
 | none =>
   obtain ⟨w,hw,h⟩:=zfh.mp h
   have:=List.find?_eq_none.mp c w hw
   rw [yaZ,yak,yak] at this
   exact absurd (h.imp Eq.symm Eq.symm) this
 | some w =>
   have h1:=List.find?_some c
   have hw:=List.mem_of_find?_eq_some c
   show Pr ws e (if w.1=e then w.2 else w.1)
   rw [yaZ,yak,yak] at h1
   by_cases z:w.1=e
   ·rw [yaM z]
    exact ⟨w,hw,.inl ⟨z.symm,rfl⟩⟩
   ·rw [yaH z]
    exact ⟨w,hw,.inr ⟨(h1.resolve_left z).symm,rfl⟩⟩
theorem zrA {F:List Nat} {x:Nat}:inF F (x:Int)=true↔x∈F:=by
 rw [zwk]
 constructor
 ·rintro ⟨n,h,e⟩
  have:n=x:=by omega
  exact this▸h
 ·exact λh=>⟨x,h,rfl⟩
def visP (ws:List Wire) (k:Nat) (ord:List Nat) (p:Nat):List Nat:=if (decide (0<=(par ws ((k:Int),(p:Int))).1) && !inF ord (par ws ((k:Int),(p:Int))).1)=true then ord++[(par ws ((k:Int),(p:Int))).1.toNat] else ord
def vis (ws:List Wire) (m k:Nat) (ord:List Nat):List Nat:=(List.range m).foldl (visP ws k) ord
def stp (ss:List Str) (np:Str->Nat) (ws:List Wire) (ord:List Nat) (t:Nat):List Nat:=match ord[t]? with
 | some k=>(match ss[k]? with
   | some s=>vis ws (np s) k ord
   | none=>ord)
 | none=>ord
def wk (ss:List Str) (np:Str->Nat) (ws:List Wire) (b t:Nat):List Nat:=(List.range t).foldl (stp ss np ws) [b]
theorem zjK (ss:List Str) (np:Str->Nat) (ws:List Wire) (b t:Nat):wk ss np ws b (t+1)=stp ss np ws (wk ss np ws b t) t:=by
 unfold wk
 rw [List.range_succ,List.foldl_append]
 rfl
structure WF (n:Nat) (ord:List Nat):Prop where
 nd:ord.Nodup
 lt:∀ x∈ord,x<n
theorem WF.len {n:Nat} {ord:List Nat} (h:WF n ord):ord.length<=n:=zry h.nd h.lt
section
variable {ss:List Str} {ws:List Wire} {np:Str->Nat}
theorem Ports.ge (P:Ports ss ws np) {e:End} (h:e∈flat ws):-1<=e.1:=by
 rcases P.out e h with h | ⟨k,p,s,_,_,rfl⟩
 ·omega
 ·show -1<=((k:Nat):Int)
  omega
theorem Ports.inb (P:Ports ss ws np) {e:End} (h:e∈flat ws) (h0:0<=e.1):e.1.toNat<ss.length:=by
 rcases P.out e h with h | ⟨k,p,s,h1,_,rfl⟩
 ·omega
 ·exact (yaf.mp h1).1
theorem zwl (P:Ports ss ws np) {k p:Nat} {s:Str} (hs:ss[k]?=some s) (hp:p<np s) {ord:List Nat} (h:WF ss.length ord):WF ss.length (visP ws k ord p):=by
 have m:=(zrz (P.all k p s hs hp)).mem.2
 unfold visP
 split
 ·rename_i c
  rw [yap,yak,ybG] at c
  have h2:(par ws ((k:Int),(p:Int))).1.toNat∉ord:=λz=>by
   have:=zrA.mpr z
   rw [yb0 c.1,c.2] at this
   cases this
  refine ⟨ybc.mpr ⟨h.nd,by simp,λa ha b hb e => ?_⟩,λx hx => ?_⟩
  ·rw [yar.mp hb] at e
   exact h2 (e▸ha)
  ·rcases yas.mp hx with hx | hx
   ·exact h.lt x hx
   ·rw [yar.mp hx]
    exact P.inb m c.1
 ·exact h
theorem ztk (ws:List Wire) (k:Nat) (ord:List Nat) (p:Nat):∃ t,visP ws k ord p=ord++t:=by
 unfold visP
 split
 ·exact ⟨_,rfl⟩
 ·exact ⟨[],(yaE _).symm⟩
theorem zrB (P:Ports ss ws np) {k:Nat} {s:Str} (hs:ss[k]?=some s):∀ (ps:List Nat) {ord:List Nat},(∀ p∈ps,p<np s)->WF ss.length ord->WF ss.length (ps.foldl (visP ws k) ord)
 | [],_,_,h=>h
 | p::ps,_,hp,h=>zrB P hs ps (λq hq=>hp q (yab _ hq)) (zwl P hs (hp p yaa) h)
theorem zls (ws:List Wire) (k:Nat):∀ (ps:List Nat) (ord:List Nat),∃ t,ps.foldl (visP ws k) ord=ord++t
 | [],ord=>⟨[],(yaE _).symm⟩
 | p::ps,ord=>by
   obtain ⟨t1,e1⟩:=ztk ws k ord p
   obtain ⟨t2,e2⟩:=zls ws k ps (visP ws k ord p)
   exact ⟨t1++t2,by show ps.foldl (visP ws k) (visP ws k ord p)=_; rw [e2,e1,yah]⟩
theorem stp_wf (P:Ports ss ws np) {ord:List Nat} (h:WF ss.length ord) (t:Nat):WF ss.length (stp ss np ws ord t):=by
 unfold stp
 split
 ·split
  ·rename_i k _ s hs
   exact zrB P hs _ (λp hp=>yav.mp hp) h
  ·exact h
 ·exact h
theorem zrC (ord:List Nat) (t:Nat):∃ u,stp ss np ws ord t=ord++u:=by
 unfold stp
 split
 ·split
  ·exact zls _ _ _ _
  ·exact ⟨[],(yaE _).symm⟩
 ·exact ⟨[],(yaE _).symm⟩
theorem zwm (P:Ports ss ws np) {b:Nat} (hb:b<ss.length):∀ t,WF ss.length (wk ss np ws b t)
 | 0=>⟨by unfold wk; simp,λx hx=>by
   have:x=b:=by unfold wk at hx; simpa using hx
   exact this▸hb⟩
 | t+1=>by
   rw [zjK]
   exact stp_wf P (zwm P hb t) t
theorem zuq {b t:Nat} (h:(wk ss np ws b t).length<=t):∀ j,wk ss np ws b (t+j)=wk ss np ws b t
 | 0=>rfl
 | j+1=>by
   have ih:=zuq h j
   rw [show t+(j+1)=(t+j)+1 by omega,zjK,ih]
   unfold stp
   rw [yaY (by omega)]
end
def Reach (ws:List Wire) (x y:Nat):Prop:=∀ S:Nat->Prop,S x->(∀ (k p:Nat) (d:End),S k->Pr ws ((k:Int),(p:Int)) d->0<=d.1->S d.1.toNat)->S y
section
variable {ws:List Wire}
theorem Reach.refl (x:Nat):Reach ws x x:=λ_ h _=>h
theorem Reach.trans {x y z:Nat} (h:Reach ws x y) (h':Reach ws y z):Reach ws x z:=λS s c=>h' S (h S s c) c
theorem Reach.edge {k p:Nat} {d:End} (h:Pr ws ((k:Int),(p:Int)) d) (h0:0<=d.1):Reach ws k d.1.toNat:=λ_ s c=>c k p d s h h0
end
section
variable {ss:List Str} {ws:List Wire} {np:Str->Nat}
theorem Ports.form (P:Ports ss ws np) {e:End} (h:e∈flat ws) (h0:0<=e.1):∃ (k p:Nat) (s:Str),ss[k]?=some s/\p<np s/\e=((k:Int),(p:Int)):=(P.out e h).resolve_left (by omega)
theorem Reach.symm (P:Ports ss ws np) {x y:Nat} (h:Reach ws x y):Reach ws y x:=by
 refine h (λz=>Reach ws z x) (.refl x) λk p d hk hd h0 => ?_
 obtain ⟨k',p',s,h1,h2,rfl⟩:=P.form hd.mem.2 h0
 exact (Reach.edge hd.symm (yb9 k)).trans hk
theorem ztl (ws:List Wire) (k:Nat) (ord:List Nat) (p:Nat) (h0:0<=(par ws ((k:Int),(p:Int))).1):(par ws ((k:Int),(p:Int))).1.toNat∈visP ws k ord p:=by
 unfold visP
 split
 ·exact yag _ yaa
 ·rename_i c
  rw [yap,yak,ybG,not_and] at c
  have c:=c h0
  have c:inF ord (par ws ((k:Int),(p:Int))).1=true:=by simpa using c
  rw [← yb0 h0] at c
  exact zrA.mp c
theorem zoA (ws:List Wire) (k:Nat):∀ (ps:List Nat) (ord:List Nat) (p:Nat),p∈ps->0<=(par ws ((k:Int),(p:Int))).1->(par ws ((k:Int),(p:Int))).1.toNat∈ps.foldl (visP ws k) ord
 | [],_,_,h,_=>nomatch h
 | q::ps,ord,p,h,h0=>by
   show _∈ps.foldl (visP ws k) (visP ws k ord q)
   rcases yao.mp h with rfl | h
   ·obtain ⟨t,e⟩:=zls ws k ps (visP ws k ord p)
    rw [e]
    exact yan _ (ztl ws k ord p h0)
   ·exact zoA ws k ps _ p h h0
theorem zoB (P:Ports ss ws np) {b k:Nat} {s:Str} (hs:ss[k]?=some s) (hk:Reach ws b k):∀ (ps:List Nat) (ord:List Nat),(∀ p∈ps,p<np s)->(∀ x∈ord,Reach ws b x)->∀ x∈ps.foldl (visP ws k) ord,Reach ws b x
 | [],_,_,h=>h
 | p::ps,ord,hp,h=>by
   refine zoB P hs hk ps _ (λq hq=>hp q (yab _ hq)) λx hx => ?_
   unfold visP at hx
   split at hx
   ·rename_i c
    rw [yap,yak] at c
    rcases yas.mp hx with hx | hx
    ·exact h x hx
    ·rw [yar.mp hx]
     exact hk.trans (.edge (zrz (P.all k p s hs (hp p yaa))) c.1)
   ·exact h x hx
theorem zur (P:Ports ss ws np) {b:Nat} (hb:b<ss.length):∀ t,∀ x∈wk ss np ws b t,Reach ws b x
 | 0,x,hx=>by
   have:x=b:=by unfold wk at hx; simpa using hx
   rw [this]
   exact .refl b
 | t+1,x,hx=>by
   have ih:=zur P hb t
   rw [zjK] at hx
   unfold stp at hx
   cases hk:(wk ss np ws b t)[t]? with
   | none=>rw [hk] at hx; exact ih x hx
   | some k =>
     rw [hk] at hx
     dsimp only at hx
     cases hs:ss[k]? with
     | none=>rw [hs] at hx; exact ih x hx
     | some s =>
       rw [hs] at hx
       exact zoB P hs (ih k (yaP hk)) _ _ (λp hp=>yav.mp hp) ih x hx
theorem zjL (P:Ports ss ws np) {b:Nat} (hb:b<ss.length):∀ (t i k:Nat),i<t->(wk ss np ws b t)[i]?=some k->∀ (s:Str) (p:Nat),ss[k]?=some s->p<np s->0<=(par ws ((k:Int),(p:Int))).1->(par ws ((k:Int),(p:Int))).1.toNat∈wk ss np ws b t
 | 0,_,_,h,_,_,_,_,_,_=>absurd h (Nat.not_lt_zero _)
 | t+1,i,k,hi,hk,s,p,hs,hp,h0=>by
   have e:=zjK ss np ws b t
   by_cases c:t<(wk ss np ws b t).length
   ·obtain ⟨u,eu⟩:=zrC (ss:=ss) (np:=np) (ws:=ws) (wk ss np ws b t) t
    have hk':(wk ss np ws b t)[i]?=some k:=by
     rw [e,eu,yca (by omega)] at hk
     exact hk
    by_cases hit:i<t
    ·rw [e,eu]
     exact yan _ (zjL P hb t i k hit hk' s p hs hp h0)
    ·have:i=t:=by omega
     subst this
     rw [e]
     unfold stp
     rw [hk']
     dsimp only
     rw [hs]
     exact zoA ws k _ _ p (yav.mpr hp) h0
   ·have e2:=zuq (ss:=ss) (np:=np) (ws:=ws) (b:=b) (t:=t) (by omega) 1
    rw [e2] at hk ⊢
    have:i<(wk ss np ws b t).length:=(yaf.mp hk).1
    exact zjL P hb t i k (by omega) hk s p hs hp h0
theorem zrD (b:Nat):∀ t,∃ u,wk ss np ws b t=b::u
 | 0=>⟨[],rfl⟩
 | t+1=>by
   obtain ⟨u,e⟩:=zrD b t
   obtain ⟨v,e2⟩:=zrC (ss:=ss) (np:=np) (ws:=ws) (wk ss np ws b t) t
   exact ⟨u++v,by rw [zjK,e2,e]; rfl⟩
abbrev wlk (ss:List Str) (np:Str->Nat) (ws:List Wire) (b:Nat):List Nat:=wk ss np ws b ss.length
theorem zps (P:Ports ss ws np) {b:Nat} (hb:b<ss.length) {k p:Nat} {d:End} (hk:k∈wlk ss np ws b) (hd:Pr ws ((k:Int),(p:Int)) d) (h0:0<=d.1):d.1.toNat∈wlk ss np ws b:=by
 obtain ⟨i,hi⟩:=List.mem_iff_getElem?.mp hk
 have li:i<(wk ss np ws b ss.length).length:=(yaf.mp hi).1
 have lw:=(zwm P hb ss.length).len
 obtain ⟨k',p',s,h1,h2,h3⟩:=P.form hd.mem.1 (yb9 k)
 have e1:(k:Int)=(k':Int):=yaX Prod.fst h3
 have e2:(p:Int)=(p':Int):=yaX Prod.snd h3
 have e1:k=k':=by omega
 have e2:p=p':=by omega
 subst e1 e2
 have ed:par ws ((k:Int),(p:Int))=d:=(zrz hd.mem.1).uniq P.nd hd
 have:=zjL P hb ss.length i k (by omega) hi s p h1 h2 (by rw [ed]; exact h0)
 rwa [ed] at this
theorem zwn (P:Ports ss ws np) {b:Nat} (hb:b<ss.length) {x:Nat}:x∈wlk ss np ws b↔Reach ws b x:=by
 refine ⟨zur P hb _ x,λh => ?_⟩
 refine h (λz=>z∈wlk ss np ws b) ?_ λk p d hk hd h0=>zps P hb hk hd h0
 obtain ⟨u,e⟩:=zrD (ss:=ss) (np:=np) (ws:=ws) b ss.length
 show b∈wk ss np ws b ss.length
 rw [e]
 exact yaa
theorem Reach.lt (P:Ports ss ws np) {b x:Nat} (hb:b<ss.length) (h:Reach ws b x):x<ss.length:=(zwm P hb _).lt x ((zwn P hb).mpr h)
end
section
variable {ss:List Str} {ws:List Wire} {np:Str->Nat}
def hg (ss:List Str) (np:Str->Nat) (ws:List Wire) (b x:Nat):Bool:=inF (wlk ss np ws b) x
end
def kO (ss:List Str) (o:List Nat):List Str:=o.map λ(k:Nat)=>((ss[k]?).getD ("" : Str):Str)
def wO (ws:List Wire) (o:List Nat):List Wire:=((ws.filter (incW o)).map (calW o)).mergeSort (leOf ltW)
section
variable {ss ss2:List Str} {ws ws2:List Wire} {np:Str->Nat}
structure Car (ss:List Str) (ws:List Wire) (ss2:List Str) (ws2:List Wire) (o:List Nat) (h:Nat->Nat):Prop where
 inj:∀ x∈o,∀ y∈o,h x=h y->x=y
 kind:∀ x∈o,ss2[h x]?=ss[x]?
 pr:∀ x∈o,∀ (p:Nat) (d:End),Pr ws ((x:Int),(p:Int)) d->Pr ws2 (((h x:Nat):Int),(p:Int)) (cal h d)
theorem Car.lt {o:List Nat} {h:Nat->Nat} (C:Car ss ws ss2 ws2 o h) (hl:∀ x∈o,x<ss.length) {x:Nat} (hx:x∈o):h x<ss2.length:=by
 have e:ss[x]?=some (ss[x]'(hl x hx)):=yad (hl x hx)
 have:=C.kind x hx
 rw [e] at this
 exact (yaf.mp this).1
end
def PP2 (ss:List Str) (np:Str->Nat) (ws:List Wire) (b:Nat):List Str×List Wire:=(kO ss (wlk ss np ws b),wO ws (wlk ss np ws b))
section
variable {ss ss2:List Str} {ws ws2:List Wire} {np:Str->Nat}
structure NI (ss:List Str) (ws:List Wire) (ss2:List Str) (ws2:List Wire) (bs L F:List Nat) (h:Nat->Nat):Prop where
 nd:L.Nodup
 mem:∀ x,x∈L↔x<ss.length/\∀ b∈bs,¬ Reach ws b x
 car:Car ss ws ss2 ws2 L h
 ndF:F.Nodup
 fr:∀ y,y∈F↔y<ss2.length/\∀ x∈L,h x≠y
variable {bs L F:List Nat} {h:Nat->Nat}
theorem NI.lt (I:NI ss ws ss2 ws2 bs L F h) {x:Nat} (hx:x∈L):x<ss.length:=((I.mem x).mp hx).1
def Good (ss ss2:List Str) (ws ws2:List Wire) (np:Str->Nat):Prop:=((List.range ss.length).map (PP2 ss np ws)).Perm ((List.range ss2.length).map (PP2 ss2 np ws2))
end
section
variable {rows:List D}
structure NT (rows:List D) (O:List D) (ss:List Str) (ws:List Wire) (rs:List D):Prop where
 nv:NV O ss ws rs
 P:Ports ss ws (npR rows)
 hss:∀ s∈ss,s∈rows.map zaE
 lt:∀ w∈ws,ltE w.1 w.2=true
 srt:ws.mergeSort (leOf ltW)=ws
 out:∀ e∈flat ws,e.1=-1->∃ k:Nat,k<O.length/\e=(-1,(k:Int))
 mt:∀ w∈ws,mates (zrt rows O ss) w
variable {O O2:List D} {ss ss2:List Str} {ws ws2:List Wire} {rs rs2:List D}
end
section
variable {rows:List D} {B:List (End×D)}
structure OpenN (rows:List D) (O:List D) (ss:List Str) (ws:List Wire):Prop where
 nt:NT rows O ss ws []
 fl:(flat ws).Perm (ztj rows O ss)
 lO:O.length<=4*ss.length
 box:∀ w∈ws,0<=w.2.1
end
section
variable {rows:List D}
structure Pat (rows:List D) (O:List D) (ss:List Str) (ws:List Wire):Prop where
 on:OpenN rows O ss ws
 pos:1<=ss.length
 hang:Hang ss ws
end
def inn (ws:List Wire):List Wire:=ws.filter λw=>decide (0<=w.1.1)
def far:List Wire->End->Option End
 | [],_=>none
 | w::ws,e=>if e=w.1 then some w.2 else if e=w.2 then some w.1 else far ws e
theorem zlt:∀ {ws:List Wire} {e d:End},far ws e=some d->Pr ws e d
 | [],_,_,h=>nomatch h
 | w::ws,e,d,h=>by
   unfold far at h
   split at h
   ·rename_i c
    exact ⟨w,yaa,.inl ⟨c,(yaQ h).symm⟩⟩
   ·split at h
    ·rename_i c
     exact ⟨w,yaa,.inr ⟨c,(yaQ h).symm⟩⟩
    ·obtain ⟨v,hv,h⟩:=zlt h
     exact ⟨v,yab _ hv,h⟩
theorem zoC:∀ {ws:List Wire} {e:End},far ws e=none->∀ d,¬ Pr ws e d
 | [],_,_,_,⟨_,z,_⟩=>nomatch z
 | w::ws,e,h,d,hp=>by
   unfold far at h
   split at h
   ·exact nomatch h
   ·split at h
    ·exact nomatch h
    ·rename_i c1 c2
     obtain ⟨v,hv,hp⟩:=hp
     rcases yao.mp hv with rfl | hv
     ·exact hp.elim (λz=>c1 z.1) (λz=>c2 z.1)
     ·exact zoC h d ⟨v,hv,hp⟩
theorem far_of {ws:List Wire} (nd:(flat ws).Nodup) {e d:End} (h:Pr ws e d):far ws e=some d:=by
 cases c:far ws e with
 | none=>exact absurd h (zoC c d)
 | some d'=>rw [(zlt c).uniq nd h]
abbrev Pairs:=List (Nat×Nat)
structure PsOk (ok:Nat->Nat->Bool) (m k:Nat) (ps:Pairs):Prop where
 len:ps.length<=k
 nd:(ps.map (·.1)).Nodup
 ok:∀ x∈ps,x.1<k/\x.2<m/\ok x.1 x.2=true
theorem PsOk.mono {ok:Nat->Nat->Bool} {m k:Nat} {ps:Pairs} (h:PsOk ok m k ps):PsOk ok m (k+1) ps:=⟨ycb h.len,h.nd,λx hx=>⟨ybT (h.ok x hx).1,(h.ok x hx).2⟩⟩
structure Lft (kP:List Str) (wl:List Wire) (np:Str->Nat):Prop where
 P:Ports kP wl np
 box:∀ w∈wl,0<=w.2.1
 pos:1<=kP.length
 hang:Hang kP wl
theorem Pat.lft {rows O:List D} {ss:List Str} {ws:List Wire} (A:Pat rows O ss ws):Lft ss ws (npR rows):=⟨A.on.nt.P,A.on.box,A.pos,A.hang⟩
section
variable {kP k2:List Str} {wl w2:List Wire} {np:Str->Nat} {b:Nat}
theorem Lft.form (L:Lft kP wl np) {e d:End} (h:Pr wl e d) (h1:e.1≠-1):∃ (k p:Nat) (s:Str),kP[k]?=some s/\p<np s/\e=((k:Int),(p:Int)):=(L.P.out e h.mem.1).resolve_left h1
def zwo (kP:List Str) (wl:List Wire) (k2:List Str) (w2:List Wire) (b:Nat) (o:Option (List Nat)):Prop:=match o with
 | some r=>r.length=kP.length/\Lays kP (inn wl) k2 w2 (fnR r)/\fnR r 0=b/\∀ g,Lays kP (inn wl) k2 w2 g->g 0=b->∀ k,k<kP.length->g k=fnR r k
 | none=>∀ g,Lays kP (inn wl) k2 w2 g->g 0=b->False
def oR:Option (List Nat)->D
 | some r=>rowT r
 | none=>.non
end
section
variable {kP k2:List Str} {wl w2:List Wire} {np:Str->Nat}
structure Places (kP k2:List Str) (wl w2:List Wire) (net left:D) (o:Nat->Option (List Nat)):Prop where
 at':∀ b,b<k2.length->zwo kP wl k2 w2 b (o b)
 prog:∀ b,b<k2.length->zks net left (nD b)=.ok (oR (o b))
 all:zni net left=.ok (((List.range k2.length).filterMap o).map rowT)
 law:zo7 net left=.ok (((List.range k2.length).filterMap o).map rowT)
end
section
variable {kP k2:List Str} {wl w2:List Wire} {net left:D} {o:Nat->Option (List Nat)}
theorem Places.row (Pl:Places kP k2 wl w2 net left o) {r:List Nat} (h:r∈(List.range k2.length).filterMap o):fnR r 0<k2.length/\o (fnR r 0)=some r/\r.length=kP.length:=by
 obtain ⟨b,hb,eb⟩:=ybj.mp h
 have hb:=yav.mp hb
 have A:=Pl.at' b hb
 rw [eb] at A
 rw [A.2.2.1]
 exact ⟨hb,eb,A.1⟩
end
end VW
namespace VW
structure Glue (V:Type) where
 W:V->V
 s:V->V
 B:V->Prop
 num:V->Nat
 ww:∀ v,W (W v)=v
 ss:∀ v,B v->s (s v)=v
 sb:∀ v,B v->B (s v)
 sn:∀ v,B v->num (s v)=num v
 two:∀ v u,B v->B u->num v=num u->u=v\/u=s v
section
variable {V:Type} (G:Glue V)
inductive Path:V->V->Prop
 | one (v:V):¬ G.B (G.W v)->Path v (G.W v)
 | on (v y:V):G.B (G.W v)->Path (G.s (G.W v)) y->Path v y
inductive Pass:V->Nat->Prop
 | here (v:V):G.B (G.W v)->Pass v (G.num (G.W v))
 | on (v:V) (k:Nat):G.B (G.W v)->Pass (G.s (G.W v)) k->Pass v k
variable {G}
end
end VW
namespace VW
open PySem PySem.Spec PyProof.Rows L2 R
def pf (ws:List Wire) (e:End):End:=(far ws e).getD e
section
variable {ws:List Wire}
theorem zwp (nd:(flat ws).Nodup) {e d:End} (h:Pr ws e d):pf ws e=d:=by
 unfold pf
 rw [far_of nd h]
 rfl
theorem pr_pf (nd:(flat ws).Nodup) {e:End} (h:e∈flat ws):Pr ws e (pf ws e):=by
 obtain ⟨d,p⟩:=pr_ex h
 rw [zwp nd p]
 exact p
theorem zus {e:End} (h:e∉flat ws):pf ws e=e:=by
 unfold pf
 cases c:far ws e with
 | none=>rfl
 | some d=>exact absurd (zlt c).mem.1 h
theorem ztm (nd:(flat ws).Nodup) (e:End):pf ws (pf ws e)=e:=by
 by_cases h:e∈flat ws
 ·exact zwp nd (pr_pf nd h).symm
 ·rw [zus h,zus h]
theorem pf_inj (nd:(flat ws).Nodup) {e d:End} (h:pf ws e=pf ws d):e=d:=by rw [← ztm nd e,h,ztm nd]
end
structure MS (m:Nat) (met:List (Key×D)):Prop where
 nd:(met.map (·.1)).Nodup
 lt:∀ x∈met.map (·.1),∃ k:Nat,k<m/\x=.inl (k:Int)
theorem MS.nil (m:Nat):MS m []:=⟨ybr,λ_ h=>nomatch h⟩
section
variable {np:Str->Nat} {ss kl kr:List Str} {ws wl wr:List Wire} {r:List Nat} {m:Nat}
class Few18 (m:Nat):Prop where
 h:m<=18
structure LSet (np:Str->Nat) (ss:List Str) (ws:List Wire) (kl:List Str) (wl:List Wire) (kr:List Str) (wr:List Wire) (r:List Nat) (m:Nat):Prop where
 N:Ports ss ws np
 L:Lft kl wl np
 R:Ports kr wr np
 lr:r.length=kl.length
 lay:Lays kl (inn wl) ss ws (fnR r)
 oL:∀ k:Nat,k<m->(((-1:Int),(k:Int)):End)∈flat wl
 oR:∀ k:Nat,k<m->(((-1:Int),(k:Int)):End)∈flat wr
 iL:∀ e∈flat wl,e.1=-1->∃ k:Nat,k<m/\e=(-1,(k:Int))
 iR:∀ e∈flat wr,e.1=-1->∃ k:Nat,k<m/\e=(-1,(k:Int))
 few:m<=24
def po (r:List Nat) (wl:List Wire) (k:Nat):End:=(((fnR r (pf wl (-1,(k:Int))).1.toNat:Nat):Int),(pf wl (-1,(k:Int))).2)
variable (S:LSet np ss ws kl wl kr wr r m)
include S
theorem LSet.left {k:Nat} (hk:k<m):∃ (j p:Nat) (s:Str),pf wl (-1,(k:Int))=((j:Int),(p:Int))/\kl[j]?=some s/\p<np s/\po r wl k=(((fnR r j:Nat):Int),(p:Int)):=by
 have pr:=pr_pf S.L.P.nd (S.oL k hk)
 have n1:(pf wl (-1,(k:Int))).1≠-1:=by
  obtain ⟨w,hw,⟨h1,h2⟩ | ⟨h1,h2⟩⟩:=pr
  ·have:=S.L.box w hw
   rw [← h2] at this
   omega
  ·have:=S.L.box w hw
   rw [← h1] at this
   exact absurd this (by show ¬ (0:Int)<=-1; decide)
 obtain ⟨j,p,s,h1,h2,h3⟩:=S.L.form pr.symm n1
 refine ⟨j,p,s,h3,h1,h2,?_⟩
 unfold po
 rw [h3]
 rfl
theorem LSet.po_inj {j k:Nat} (hj:j<m) (hk:k<m) (e:po r wl j=po r wl k):j=k:=by
 obtain ⟨b,p,s,h0,h1,h2,h3⟩:=S.left hj
 obtain ⟨c,q,t,g0,g1,g2,g3⟩:=S.left hk
 rw [h3,g3] at e
 have e1:((fnR r b:Nat):Int)=(fnR r c:Nat):=yaX Prod.fst e
 have e2:(p:Int)=q:=yaX Prod.snd e
 have:=S.lay.inj b c (yaf.mp h1).1 (yaf.mp g1).1 (by omega)
 rw [this,e2,← g0] at h0
 have:=pf_inj S.L.P.nd h0
 have:=yaX Prod.snd this
 have this:(j:Int)=k:=this
 omega
theorem LSet.po_box {k:Nat} (hk:k<m):∃ b∈r,∃ p:Nat,po r wl k=((b:Int),(p:Int)):=by
 obtain ⟨j,p,s,_,h1,_,h3⟩:=S.left hk
 have lj:=(yaf.mp h1).1
 exact ⟨fnR r j,yaP (zup (by rw [S.lr]; exact lj)),p,h3⟩
omit S in
def onum (r:List Nat) (wl:List Wire) (m:Nat) (e:End):Nat:=((List.range m).find? λk=>decide (po r wl k=e)).getD 0
end
def zha (n:Nat) (r:List Nat):List Nat:=(List.range n).filter λb=>decide (b∉r)
theorem ztn {n:Nat} {r:List Nat} {b:Nat}:b∈zha n r↔b<n/\b∉r:=by
 unfold zha
 rw [ya1,yav,yak]
theorem zwq (n:Nat) (r:List Nat):(zha n r).Nodup:=ybW.filter _
def nmE (st:List Nat) (v:Bool×End):End:=if v.1=true then (if v.2.1=-1 then v.2 else (((st.idxOf v.2.1.toNat:Nat):Int),v.2.2)) else ((st.length:Int)+v.2.1,v.2.2)
section
variable {np:Str->Nat} {ss kl kr:List Str} {ws wl wr:List Wire} {r:List Nat} {m:Nat}
def Term (ws wr:List Wire) (r:List Nat) (v:Bool×End):Prop:=if v.1=true then v.2∈flat ws/\(v.2.1=-1\/v.2.1.toNat∉r) else v.2∈flat wr/\v.2.1≠-1
def VV (ws wl wr:List Wire) (r:List Nat) (m:Nat) (v:Bool×End):Prop:=if v.1=true then v.2∈flat ws/\(v.2.1=-1\/v.2.1.toNat∉r\/∃ k,k<m/\v.2=po r wl k) else v.2∈flat wr
variable (S:LSet np ss ws kl wl kr wr r m)
include S
end
section
variable {np:Str->Nat} {ss kl kr:List Str} {ws wl wr:List Wire} {r:List Nat} {m:Nat}
variable (S:LSet np ss ws kl wl kr wr r m)
include S
abbrev stO (ss:List Str) (r:List Nat):List Nat:=zha ss.length r
theorem zpt {e:End} (h:Term ws wr r (false,e)):∃ (b p:Nat) (s:Str),kr[b]?=some s/\p<np s/\e=((b:Int),(p:Int)):=by
 obtain ⟨h1,h2⟩:e∈flat wr/\e.1≠-1:=h
 exact (S.R.out e h1).resolve_left h2
omit S in
theorem nm_out {st:List Nat} {e:End} (h:e.1=-1):nmE st (true,e)=e:=by
 unfold nmE
 rw [yaM rfl,yaM h]
omit S in
theorem nm_box {st:List Nat} {b p:Nat}:nmE st (true,((b:Int),(p:Int)))=(((st.idxOf b:Nat):Int),(p:Int)):=by
 unfold nmE
 rw [yaM rfl,yaH (by show ((b:Nat):Int)≠-1; omega)]
 show ((((st.idxOf ((b:Nat):Int).toNat:Nat)):Int),(p:Int))=_
 rw [yaS]
omit S in
theorem zto {st:List Nat} {b p:Nat}:nmE st (false,((b:Int),(p:Int)))=(((st.length+b:Nat):Int),(p:Int)):=by
 show ((st.length:Int)+(b:Int),(p:Int))=_
 rw [Int.natCast_add]
def tL (ws wr:List Wire) (r:List Nat):List (Bool×End):=((flat ws).filter λe=>decide (e.1=-1\/e.1.toNat∉r)).map (λe=>(true,e))++((flat wr).filter λe=>decide (e.1≠-1)).map (λe=>(false,e))
end
abbrev CT:Type:=List (Str×Int)
def rgD (x:Str×Int):D:=.tup [.str x.1,.int x.2]
section
variable {np:Str->Nat} {ss kl kr:List Str} {ws wl wr:List Wire} {r:List Nat} {m:Nat}
variable (S:LSet np ss ws kl wl kr wr r m)
include S
omit S in
inductive Rnd (A:Nat->Nat->Prop):Nat->Nat->Prop
 | refl (k:Nat):Rnd A k k
 | step {k j i:Nat} (h:Rnd A k j) (a:A j i):Rnd A k i
omit S in
theorem Rnd.trans {A:Nat->Nat->Prop} {k j i:Nat} (h:Rnd A k j) (g:Rnd A j i):Rnd A k i:=by
 induction g with
 | refl=>exact h
 | step _ a ih=>exact .step ih a
omit S in
theorem Rnd.symm {A:Nat->Nat->Prop} (hA:∀ x y,A x y->A y x) {k j:Nat} (h:Rnd A k j):Rnd A j k:=by
 induction h with
 | refl=>exact .refl _
 | step _ a ih=>exact Rnd.trans (.step (.refl _) (hA _ _ a)) ih
end
def PlOk (kl:List Str) (wl:List Wire) (ss:List Str) (ws:List Wire) (r:List Nat):Prop:=r.length=kl.length/\Lays kl (inn wl) ss ws (fnR r)
section
variable {np:Str->Nat} {kl ss:List Str} {wl ws:List Wire}
theorem PlOk.lt (L:Lft kl wl np) {r:List Nat} (h:PlOk kl wl ss ws r):fnR r 0<ss.length:=by
 have:=h.2.kind 0 _ (yad L.pos)
 exact (yaf.mp this).1
end
section
variable {rows:List D}
structure RuleN (rows O:List D) (kl:List Str) (wl:List Wire) (kr:List Str) (wr:List Wire) (rsr:List D):Prop where
 pat:Pat rows O kl wl
 few:kl.length<=3
 nt:NT rows O kr wr rsr
 fl:(flat wr).Perm (ztj rows O kr)
 up:znx "" rsr=true
 lr:rsr.length<=100
 lk:kr.length<=15+O.length
structure NetN (rows O:List D) (ss:List Str) (ws:List Wire) (rs:List D):Prop where
 nt:NT rows O ss ws rs
 fl:(flat ws).Perm (ztj rows O ss)
 up:znx "" rs=true
theorem LSet.of {O Ol:List D} {ss kl kr:List Str} {ws wl wr:List Wire} {rs rsr:List D} {r:List Nat} (N:NetN rows O ss ws rs) (Q:RuleN rows Ol kl wl kr wr rsr) (h:PlOk kl wl ss ws r):LSet (npR rows) ss ws kl wl kr wr r Ol.length where
 N:=N.nt.P
 L:=Q.pat.lft
 R:=Q.nt.P
 lr:=h.1
 lay:=h.2
 oL:=λk hk=>Q.pat.on.fl.mem_iff.mpr (zlr.mpr (.inl ⟨k,hk,rfl⟩))
 oR:=λk hk=>Q.fl.mem_iff.mpr (zlr.mpr (.inl ⟨k,hk,rfl⟩))
 iL:=Q.pat.on.nt.out
 iR:=Q.nt.out
 few:=by
  have:=Q.pat.on.lO
  have:=Q.few
  omega
end
def Tp (k:Nat) (d:D):Prop:=∃ xs,d=.tup xs/\xs.length<=k/\∀ x∈xs,Sm 1 x
def BT (d:D):Prop:=Tp 50 d\/(zli d=false/\Sm 2 d)
theorem Tp.le {j k:Nat} {d:D} (h:Tp j d) (l:j<=k):Tp k d:=by
 obtain ⟨xs,e,h1,h2⟩:=h
 exact ⟨xs,e,ya5 h1 l,h2⟩
section
variable {np:Str->Nat} {ss kl kr ss2 kl2 kr2:List Str} {ws wl wr ws2 wl2 wr2:List Wire} {r r2:List Nat} {m:Nat}
structure Iso (ws wl wr:List Wire) (r:List Nat) (ws2 wl2 wr2:List Wire) (r2:List Nat) (m:Nat) (f g:End->End) (o:Nat->Nat):Prop where
 fW:∀ e∈flat ws,f e∈flat ws2/\pf ws2 (f e)=f (pf ws e)
 gW:∀ e∈flat wr,g e∈flat wr2/\pf wr2 (g e)=g (pf wr e)
 go:∀ k:Nat,k<m->g (-1,(k:Int))=(-1,((o k:Nat):Int))
 ob:∀ k,k<m->o k<m
 os:∀ j,j<m->∃ k,k<m/\o k=j
 fp:∀ k,k<m->po r2 wl2 (o k)=f (po r wl k)
 fi:∀ e∈flat ws,∀ d∈flat ws,f e=f d->e=d
 gi:∀ e∈flat wr,∀ d∈flat wr,g e=g d->e=d
 fs:∀ d∈flat ws2,∃ e∈flat ws,f e=d
 gs:∀ d∈flat wr2,∃ e∈flat wr,g e=d
 ft:∀ e∈flat ws,((f e).1=-1\/(f e).1.toNat∉r2)↔(e.1=-1\/e.1.toNat∉r)
 gt:∀ e∈flat wr,(g e).1≠-1↔e.1≠-1
def ff (f g:End->End) (v:Bool×End):Bool×End:=if v.1=true then (true,f v.2) else (false,g v.2)
def inV (ws wr:List Wire) (v:Bool×End):Prop:=if v.1=true then v.2∈flat ws else v.2∈flat wr
variable (S:LSet np ss ws kl wl kr wr r m) (S2:LSet np ss2 ws2 kl2 wl2 kr2 wr2 r2 m) {f g:End->End} {o:Nat->Nat} (I:Iso ws wl wr r ws2 wl2 wr2 r2 m f g o)
include S S2 I
end
structure Grp (n:Nat) (L:List (Nat×Nat)) (g:List Nat):Prop where
 len:g.length=n
 eq:∀ p∈L,pn g p.1=pn g p.2
 cl:∀ C:Nat->Prop,(∀ p∈L,C p.1↔C p.2)->∀ i j,i<n->j<n->pn g i=pn g j->C i->C j
theorem zoD {n i:Nat} (h:i<n):pn (List.range n) i=i:=by
 unfold pn
 rw [ybd h]
 rfl
theorem Grp.nil (n:Nat):Grp n [] (List.range n):=⟨yaI,(λ_ z=>nomatch z),λC _ i j hi hj e c=>by
 rw [zoD hi,zoD hj] at e
 exact e▸c⟩
section
variable {V:Type} (G:Glue V)
inductive Way (v:V):V->Prop
 | refl:Way v v
 | w {x:V} (h:Way v x):Way v (G.W x)
 | s {x:V} (h:Way v x) (b:G.B x):Way v (G.s x)
variable {G}
theorem Way.symm {v x:V} (h:Way G v x):Way G x v:=by
 have tr:∀ {a b c:V},Way G a b->Way G b c->Way G a c:=λ{a b c} h1 h2=>by
  induction h2 with
  | refl=>exact h1
  | w _ ih=>exact .w ih
  | s _ b ih=>exact .s ih b
 induction h with
 | refl=>exact .refl
 | @w x _ ih =>
   have:=Way.w (G:=G) (v:=G.W x) .refl
   rw [G.ww] at this
   exact tr this ih
 | @s x _ b ih =>
   have:=Way.s (G:=G) (v:=G.s x) .refl (G.sb _ b)
   rw [G.ss _ b] at this
   exact tr this ih
end
def wix (ws:List Wire) (e:End):Nat:=ws.findIdx λw=>decide (e=w.1\/e=w.2)
section
variable {np:Str->Nat} {ss kl kr:List Str} {ws wl wr:List Wire} {r:List Nat} {m:Nat}
def ndV (ws wr:List Wire) (v:Bool×End):Nat:=if v.1=true then wix ws v.2 else ws.length+wix wr v.2
def seamL (ws wl wr:List Wire) (r:List Nat) (m:Nat):List (Nat×Nat):=(List.range m).map λk:Nat=>(ndV ws wr (true,po r wl k),ndV ws wr (false,(-1,(k:Int))))
variable (S:LSet np ss ws kl wl kr wr r m)
include S
variable {g:List Nat} (Γ:Grp (ws.length+wr.length) (seamL ws wl wr r m) g)
include Γ
end
section
variable {α:Type} {ky:α->Key} {f:α->D}
theorem ztp:∀ {s:List (Key×List D)} {k:Key} {d:D},(s.map (·.1)).Nodup->∀ {k':Key} {ds':List D},(k',ds')∈addN s k d↔(k'=k/\((∃ ds,(k,ds)∈s/\ds'=ds++[d])\/(k∉s.map (·.1)/\ds'=[d])))\/(k'≠k/\(k',ds')∈s)
 | [],k,d,_,k',ds'=>by
   unfold addN
   rw [yar]
   constructor
   ·intro h
    injection h with h1 h2
    exact .inl ⟨h1,.inr ⟨yaF,h2⟩⟩
   ·rintro (⟨rfl,⟨_,h,_⟩ | ⟨_,rfl⟩⟩ | ⟨_,h⟩)
    ·exact nomatch h
    ·rfl
    ·exact nomatch h
 | (k0,ds0)::s,k,d,nd,k',ds'=>by
   obtain ⟨n0,nd⟩:=ya8.mp nd
   have ih:=ztp (s:=s) (k:=k) (d:=d) nd (k':=k') (ds':=ds')
   unfold addN
   dsimp only
   by_cases c:k0=k
   ·subst c
    rw [yaM rfl,yao]
    constructor
    ·rintro (h | h)
     ·injection h with h1 h2
      exact .inl ⟨h1,.inl ⟨ds0,yaa,h2⟩⟩
     ·refine .inr ⟨λz=>n0 ?_,yab _ h⟩
      exact yal.mpr ⟨_,h,z⟩
    ·rintro (⟨rfl,⟨ds,h,rfl⟩ | ⟨h,_⟩⟩ | ⟨h1,h⟩)
     ·rcases yao.mp h with h | h
      ·injection h with _ h
       rw [h]
       exact .inl rfl
      ·exact absurd (yal.mpr ⟨_,h,rfl⟩) n0
     ·exact absurd yaa h
     ·rcases yao.mp h with h | h
      ·injection h with h _
       exact absurd h h1
      ·exact .inr h
   ·rw [yaH c,yao,ih]
    constructor
    ·rintro (h | ⟨h1,⟨ds,h,rfl⟩ | ⟨h,rfl⟩⟩ | ⟨h1,h⟩)
     ·injection h with h1 h2
      exact .inr ⟨λz=>c (h1.symm.trans z),by rw [h1,h2]; exact yaa⟩
     ·exact .inl ⟨h1,.inl ⟨ds,yab _ h,rfl⟩⟩
     ·exact .inl ⟨h1,.inr ⟨λz=>(yao.mp z).elim (λy=>c y.symm) h,rfl⟩⟩
     ·exact .inr ⟨h1,yab _ h⟩
    ·rintro (⟨h1,⟨ds,h,rfl⟩ | ⟨h,rfl⟩⟩ | ⟨h1,h⟩)
     ·rcases yao.mp h with h | h
      ·injection h with h _
       exact absurd h.symm c
      ·exact .inr (.inl ⟨h1,.inl ⟨ds,h,rfl⟩⟩)
     ·exact .inr (.inl ⟨h1,.inr ⟨λz=>h (yab _ z),rfl⟩⟩)
     ·rcases yao.mp h with h | h
      ·exact .inl h
      ·exact .inr (.inr ⟨h1,h⟩)
structure KP (ky:α->Key) (f:α->D) (A:List α) (s:List (Key×List D)):Prop where
 nd:(s.map (·.1)).Nodup
 mem:∀ k ds,(k,ds)∈s↔ds≠[]/\ds=(A.filter λv=>decide (ky v=k)).map f
theorem KP.nil:KP ky f [] []:=⟨ybr,λk ds=>⟨(λh=>nomatch h),λh=>absurd h.2 h.1⟩⟩
end
section
variable {V:Type} {G:Glue V}
theorem Way.trans {a b c:V} (h1:Way G a b) (h2:Way G b c):Way G a c:=by
 induction h2 with
 | refl=>exact h1
 | w _ ih=>exact .w ih
 | s _ b ih=>exact .s ih b
structure SG (G:Glue V) (m:Nat) (a b:Nat->V):Prop where
 B:∀ v,G.B v↔∃ k,k<m/\(v=a k\/v=b k)
 sa:∀ k,k<m->G.s (a k)=b k
 sb:∀ k,k<m->G.s (b k)=a k
 na:∀ k,k<m->G.num (a k)=k
 nx:∀ j k,j<m->k<m->G.W (a j)≠b k
variable {m:Nat} {a b:Nat->V} (S:SG G m a b)
include S
end
section
variable {V1 VU V' V3:Type}
structure Nest (G1:Glue V1) (G':Glue V') (G3:Glue V3) (P1:V1->Prop) (PU:VU->Prop) (e1:V1->V3) (eU:VU->V3) (i1:V1->V') (iU:VU->V'):Prop where
 pW:∀ v,P1 v->P1 (G1.W v)
 ps:∀ v,P1 v->G1.B v->P1 (G1.s v)
 W1:∀ v,P1 v->G3.W (e1 v)=e1 (G1.W v)
 B1:∀ v,P1 v->G1.B v->G3.B (e1 v)
 s1:∀ v,P1 v->G1.B v->G3.s (e1 v)=e1 (G1.s v)
 WU:∀ u,PU u->∃ u',PU u'/\G3.W (eU u)=eU u'/\G'.W (iU u)=iU u'
 WT:∀ v y,P1 v->¬ G1.B v->Path G1 v y->G'.W (i1 v)=i1 y
 pt:∀ v,P1 v->¬ G1.B v->∃ y,Path G1 v y
 BT:∀ v,P1 v->¬ G1.B v->(G'.B (i1 v)↔G3.B (e1 v))
 BU:∀ u,PU u->(G'.B (iU u)↔G3.B (eU u))
 sT:∀ v,P1 v->¬ G1.B v->G3.B (e1 v)->∃ u,PU u/\G3.s (e1 v)=eU u/\G'.s (i1 v)=iU u
 sU:∀ u,PU u->G3.B (eU u)->∃ v,P1 v/\¬ G1.B v/\G3.s (eU u)=e1 v/\G'.s (iU u)=i1 v
 dj:∀ v u,P1 v->PU u->e1 v≠eU u
 in1:∀ v x,P1 v->P1 x->e1 v=e1 x->v=x
 inU:∀ v x,PU v->PU x->eU v=eU x->v=x
def Vis (G1:Glue V1) (P1:V1->Prop) (PU:VU->Prop) (e1:V1->V3) (eU:VU->V3) (i1:V1->V') (iU:VU->V') (x3:V3) (x':V'):Prop:=(∃ v,P1 v/\¬ G1.B v/\x3=e1 v/\x'=i1 v)\/∃ u,PU u/\x3=eU u/\x'=iU u
variable {G1:Glue V1} {G':Glue V'} {G3:Glue V3} {P1:V1->Prop} {PU:VU->Prop} {e1:V1->V3} {eU:VU->V3} {i1:V1->V'} {iU:VU->V'}
variable (N:Nest G1 G' G3 P1 PU e1 eU i1 iU)
include N
theorem Nest.up {v x:V1} (p:Way G1 v x) (hv:P1 v):P1 x/\Way G3 (e1 v) (e1 x):=by
 induction p with
 | refl=>exact ⟨hv,.refl⟩
 | w _ ih =>
   refine ⟨N.pW _ ih.1,?_⟩
   rw [← N.W1 _ ih.1]
   exact .w ih.2
 | s _ b ih =>
   refine ⟨N.ps _ ih.1 b,?_⟩
   rw [← N.s1 _ ih.1 b]
   exact .s ih.2 (N.B1 _ ih.1 b)
end
section
variable {rows ON OM:List D} {sn sm:List Str} {wn wm:List Wire} {rn rm:List D}
theorem NetN.out_in (N:NetN rows ON sn wn rn) {k:Nat} (h:k<ON.length):(((-1:Int),(k:Int)):End)∈flat wn:=N.fl.mem_iff.mpr (zlr.mpr (.inl ⟨k,h,rfl⟩))
end
inductive P3 | n | m | r
abbrev E3:=P3×End
section
variable {np:Str->Nat} {sm kl kr:List Str} {wv wm wl wr:List Wire} {r:List Nat} {q:Nat}
def W3 (wv wm wr:List Wire):E3->E3
 | (.n,e)=>(.n,pf wv e)
 | (.m,e)=>(.m,pf wm e)
 | (.r,e)=>(.r,pf wr e)
def s3 (ln q:Nat) (r:List Nat) (wl:List Wire):E3->E3
 | (.n,e)=>(.m,(-1,e.2))
 | (.m,e)=>if e.1=-1 then (.n,((ln:Int),e.2)) else (.r,(-1,((onum r wl q e:Nat):Int)))
 | (.r,e)=>(.m,po r wl e.2.toNat)
variable (S:LSet np sm wm kl wl kr wr r q)
include S
end
theorem idx_nd {l:List Nat} (nd:l.Nodup) {i x:Nat} (h:l[i]?=some x):l.idxOf x=i:=by
 obtain ⟨hi,e⟩:=yaf.mp h
 have:=ybv nd i hi
 rwa [e] at this
def T3 (rows:List D) (sn sm kr:List Str) (r:List Nat):E3->Prop
 | (.n,e)=>∃ (b p:Nat) (s:Str),sn[b]?=some s/\p<npR rows s/\e=((b:Int),(p:Int))
 | (.m,e)=>∃ (b p:Nat) (s:Str),sm[b]?=some s/\p<npR rows s/\b∉r/\e=((b:Int),(p:Int))
 | (.r,e)=>∃ (b p:Nat) (s:Str),kr[b]?=some s/\p<npR rows s/\e=((b:Int),(p:Int))
structure Rl where
 O:List D
 kl:List Str
 wl:List Wire
 kr:List Str
 wr:List Wire
 rs:List D
def Rl.d (q:Rl):D:=.tup [netD q.O q.kl q.wl [],netD q.O q.kr q.wr q.rs]
structure Mny (rows O:List D) (ss:List Str) (ws:List Wire) (rs:List D) (q:Nat->Rl) (R:Nat->List Nat) (L:Nat):Prop where
 St:Stok rows
 N:NetN rows O ss ws rs
 Q:∀ i,i<L->RuleN rows (q i).O (q i).kl (q i).wl (q i).kr (q i).wr (q i).rs
 h:∀ i,i<L->PlOk (q i).kl (q i).wl ss ws (R i)
 ap:∀ i j,i<L->j<L->i≠j->∀ b∈R i,b∉R j
section
variable {rows O:List D} {ss:List Str} {ws:List Wire} {rs:List D} {q:Nat->Rl} {R:Nat->List Nat} {L:Nat}
def poi (q:Nat->Rl) (R:Nat->List Nat) (i k:Nat):End:=po (R i) (q i).wl k
variable (M:Mny rows O ss ws rs q R L)
include M
theorem Mny.B {i:Nat} (hi:i<L):LSet (npR rows) ss ws (q i).kl (q i).wl (q i).kr (q i).wr (R i) (q i).O.length:=LSet.of M.N (M.Q i hi) (M.h i hi)
theorem Mny.few {i:Nat} (hi:i<L):(q i).O.length<=18:=by
 have:=(M.Q i hi).few
 have:=(M.Q i hi).pat.on.lO
 omega
theorem Mny.box {i k:Nat} (hi:i<L) (hk:k<(q i).O.length):∃ b∈R i,∃ p:Nat,poi q R i k=((b:Int),(p:Int)):=(M.B hi).po_box hk
theorem Mny.inj {i k j l:Nat} (hi:i<L) (hk:k<(q i).O.length) (hj:j<L) (hl:l<(q j).O.length) (e:poi q R i k=poi q R j l):i=j/\k=l:=by
 by_cases c:i=j
 ·subst c
  exact ⟨rfl,(M.B hi).po_inj hk hl e⟩
 ·obtain ⟨b,hb,p,e1⟩:=M.box hi hk
  obtain ⟨b2,hb2,p2,e2⟩:=M.box hj hl
  rw [e1,e2] at e
  have:=(ybq e).1
  have:b=b2:=by omega
  subst this
  exact absurd hb2 (M.ap i j hi hj c b hb)
omit M in
open Classical in
noncomputable def fnd (q:Nat->Rl) (R:Nat->List Nat) (L:Nat) (e:End):Nat×Nat:=if h:∃ x:Nat×Nat,x.1<L/\x.2<(q x.1).O.length/\e=poi q R x.1 x.2 then Classical.choose h else (0,0)
theorem Mny.fndp {i k:Nat} (hi:i<L) (hk:k<(q i).O.length):fnd q R L (poi q R i k)=(i,k):=by
 have ex:∃ x:Nat×Nat,x.1<L/\x.2<(q x.1).O.length/\poi q R i k=poi q R x.1 x.2:=⟨(i,k),hi,hk,rfl⟩
 unfold fnd
 rw [dif_pos ex]
 obtain ⟨h1,h2,h3⟩:=Classical.choose_spec ex
 obtain ⟨e1,e2⟩:=M.inj hi hk h1 h2 h3
 exact Prod.ext e1.symm e2.symm
end
abbrev EN:=Nat×End
section
variable {rows O:List D} {ss:List Str} {ws:List Wire} {rs:List D} {q:Nat->Rl} {R:Nat->List Nat} {L:Nat}
def WM (ws:List Wire) (q:Nat->Rl) (L:Nat):EN->EN
 | (0,e)=>(0,pf ws e)
 | (i+1,e)=>if i<L then (i+1,pf (q i).wr e) else (i+1,e)
noncomputable def sM (q:Nat->Rl) (R:Nat->List Nat) (L:Nat):EN->EN
 | (0,e)=>((fnd q R L e).1+1,(-1,(((fnd q R L e).2:Nat):Int)))
 | (i+1,e)=>(0,poi q R i e.2.toNat)
noncomputable def numM (q:Nat->Rl) (R:Nat->List Nat) (L:Nat):EN->Nat
 | (0,e)=>(fnd q R L e).1*100+(fnd q R L e).2
 | (i+1,e)=>i*100+e.2.toNat
def BM (q:Nat->Rl) (R:Nat->List Nat) (g:Nat->Prop) (v:EN):Prop:=∃ i,g i/\∃ k,k<(q i).O.length/\(v=(0,poi q R i k)\/v=(i+1,(-1,(k:Int))))
variable (M:Mny rows O ss ws rs q R L)
include M
theorem Mny.s0 {i k:Nat} (hi:i<L) (hk:k<(q i).O.length):sM q R L (0,poi q R i k)=(i+1,(-1,(k:Int))):=by
 show ((fnd q R L (poi q R i k)).1+1,((-1:Int),(((fnd q R L (poi q R i k)).2:Nat):Int)))=_
 rw [M.fndp hi hk]
theorem Mny.s1 {i k:Nat}:sM q R L (i+1,(-1,(k:Int)))=(0,poi q R i k):=by
 show (0,poi q R i ((k:Nat):Int).toNat)=_
 rw [yaS]
theorem Mny.n0 {i k:Nat} (hi:i<L) (hk:k<(q i).O.length):numM q R L (0,poi q R i k)=i*100+k:=by
 show (fnd q R L (poi q R i k)).1*100+(fnd q R L (poi q R i k)).2=_
 rw [M.fndp hi hk]
theorem Mny.n1 {i k:Nat}:numM q R L (i+1,(-1,(k:Int)))=i*100+k:=by
 show i*100+((k:Nat):Int).toNat=_
 rw [yaS]
noncomputable def Mny.G (g:Nat->Prop) (hg:∀ i,g i->i<L):Glue EN where
 W:=WM ws q L
 s:=sM q R L
 B:=BM q R g
 num:=numM q R L
 ww v:=by
  obtain ⟨c,e⟩:=v
  cases c with
  | zero =>
    show (0,pf ws (pf ws e))=_
    rw [ztm M.N.nt.P.nd]
  | succ i =>
    show WM ws q L (if i<L then (i+1,pf (q i).wr e) else (i+1,e))=_
    by_cases c:i<L
    ·rw [yaM c]
     show (if i<L then (i+1,pf (q i).wr (pf (q i).wr e)) else _)=_
     rw [yaM c,ztm (M.Q i c).nt.P.nd]
    ·rw [yaH c]
     show (if i<L then _ else (i+1,e))=_
     rw [yaH c]
 ss v:=by
  rintro ⟨i,gi,k,hk,rfl | rfl⟩
  ·rw [M.s0 (hg i gi) hk,M.s1]
  ·rw [M.s1,M.s0 (hg i gi) hk]
 sb v:=by
  rintro ⟨i,gi,k,hk,rfl | rfl⟩
  ·rw [M.s0 (hg i gi) hk]
   exact ⟨i,gi,k,hk,.inr rfl⟩
  ·rw [M.s1]
   exact ⟨i,gi,k,hk,.inl rfl⟩
 sn v:=by
  rintro ⟨i,gi,k,hk,rfl | rfl⟩
  ·rw [M.s0 (hg i gi) hk,M.n1,M.n0 (hg i gi) hk]
  ·rw [M.s1,M.n0 (hg i gi) hk,M.n1]
 two v u:=by
  rintro ⟨i,gi,k,hk,hv⟩ ⟨j,gj,l,hl,hu⟩ e
  have fi:=M.few (hg i gi)
  have fj:=M.few (hg j gj)
  have nv:numM q R L v=i*100+k:=by
   rcases hv with rfl | rfl
   ·exact M.n0 (hg i gi) hk
   ·exact M.n1
  have nu:numM q R L u=j*100+l:=by
   rcases hu with rfl | rfl
   ·exact M.n0 (hg j gj) hl
   ·exact M.n1
  rw [nv,nu] at e
  have e1:i=j:=by omega
  subst e1
  have e2:k=l:=by omega
  subst e2
  rcases hv with rfl | rfl<;>rcases hu with rfl | rfl
  ·exact .inl rfl
  ·exact .inr (M.s0 (hg i gi) hk).symm
  ·exact .inr M.s1.symm
  ·exact .inl rfl
omit M in
def TM (ws:List Wire) (q:Nat->Rl) (R:Nat->List Nat) (g:Nat->Prop) (v:EN):Prop:=(v.1=0/\v.2∈flat ws/\(v.2.1=-1\/∀ i,g i->v.2.1.toNat∉R i))\/∃ i,g i/\v.1=i+1/\v.2∈flat (q i).wr/\v.2.1≠-1
omit M in
def PM (ws:List Wire) (q:Nat->Rl) (R:Nat->List Nat) (g:Nat->Prop) (v:EN):Prop:=(v.1=0/\v.2∈flat ws/\∀ i,g i->VV ws (q i).wl (q i).wr (R i) (q i).O.length (true,v.2))\/∃ i,g i/\v.1=i+1/\v.2∈flat (q i).wr
omit M in
theorem vv0 {wl wr:List Wire} {r:List Nat} {m:Nat} {e:End}:VV ws wl wr r m (true,e)↔e∈flat ws/\(e.1=-1\/e.1.toNat∉r\/∃ k,k<m/\e=po r wl k):=Iff.rfl
variable {g:Nat->Prop} (hg:∀ i,g i->i<L)
include hg
theorem Mny.tm_pm {v:EN} (t:TM ws q R g v):PM ws q R g v/\¬ BM q R g v:=by
 obtain ⟨c,e⟩:=v
 rcases t with ⟨h1,h2,h3⟩ | ⟨i,gi,h1,h2,h3⟩
 ·have h1:c=0:=h1
  subst h1
  refine ⟨.inl ⟨rfl,h2,λi gi=>vv0.mpr ⟨h2,h3.elim .inl λy=>.inr (.inl (y i gi))⟩⟩,?_⟩
  rintro ⟨i,gi,k,hk,z | z⟩
  ·have z:e=poi q R i k:=(ybq z).2
   obtain ⟨b,hb,p,eb⟩:=M.box (hg i gi) hk
   rw [z,eb] at h3
   rcases h3 with y | y
   ·have y:((b:Nat):Int)=-1:=y
    omega
   ·have:=y i gi
    have this:((b:Nat):Int).toNat∉R i:=this
    rw [yaS] at this
    exact this hb
  ·exact absurd (ybq z).1 (ybX i).symm
 ·have h1:c=i+1:=h1
  subst h1
  refine ⟨.inr ⟨i,gi,rfl,h2⟩,?_⟩
  rintro ⟨j,gj,k,hk,z | z⟩
  ·exact absurd (ybq z).1 (ybX i)
  ·have z:e=(-1,(k:Int)):=(ybq z).2
   rw [z] at h3
   exact h3 rfl
end
theorem zwr {α:Type} [BEq α] [LawfulBEq α] {l:List α} (nd:l.Nodup) {i:Nat} {x:α} (h:l[i]?=some x):l.idxOf x=i:=by
 obtain ⟨hi,e⟩:=yaf.mp h
 have:=ybv nd i hi
 rwa [e] at this
theorem znz {α:Type} [BEq α] [LawfulBEq α] {l:List α} {x:α} (h:x∈l):l[l.idxOf x]?=some x:=by
 have hi:=List.idxOf_lt_length_of_mem h
 rw [yad hi,List.getElem_idxOf]
theorem zpu {α:Type} (l:List α) (d:α):(List.range l.length).map (λb=>l[b]?.getD d)=l:=by
 refine List.ext_getElem (by rw [yac,yaI]) λk h1 h2 => ?_
 rw [ycn,List.getElem_range,yad h2]
 rfl
section
variable {α:Type} [BEq α] [LawfulBEq α] [DecidableEq α] {l A:List α} (nd:l.Nodup) (sub:∀ a∈A,a∈l)
include nd sub
theorem zlu (d:α):(zha l.length (A.map l.idxOf)).map (λj=>l[j]?.getD d)=l.filter λx=>decide (x∉A):=by
 have e:=zpu l d
 have:l.filter (λx=>decide (x∉A))=((List.range l.length).map (λb=>l[b]?.getD d)).filter λx=>decide (x∉A):=by rw [e]
 rw [this,List.filter_map]
 unfold zha
 congr 1
 refine List.filter_congr λj hj => ?_
 have hj:=yav.mp hj
 show decide _=decide _
 congr 1
 show (¬ j∈A.map λa=>List.idxOf a l)=¬ (l[j]?.getD d)∈A
 rw [yad hj]
 refine propext ⟨λh z=>h (yal.mpr ⟨_,z,ybv nd j hj⟩),λh z => ?_⟩
 obtain ⟨a,ha,e1⟩:=yal.mp z
 have:=znz (sub a ha)
 rw [e1,yad hj] at this
 have:l[j]=a:=yaQ this
 exact h (this▸ha)
theorem zrE:(zha l.length (A.map l.idxOf)).length=(l.filter λx=>decide (x∉A)).length:=by
 cases l with
 | nil=>rfl
 | cons d l'=>rw [← zlu nd sub d,yac]
theorem ztq {x:α} (hx:x∈l) (hA:x∉A):(zha l.length (A.map l.idxOf)).idxOf (l.idxOf x)=(l.filter λx=>decide (x∉A)).idxOf x:=by
 have hm:x∈l.filter λx=>decide (x∉A):=ya1.mpr ⟨hx,yaj hA⟩
 refine idx_nd (zwq _ _) ?_
 have h1:=znz hm
 rw [← zlu nd sub x,yaA] at h1
 rw [zlu nd sub x] at h1
 cases c:(zha l.length (A.map l.idxOf))[(l.filter λx=>decide (x∉A)).idxOf x]? with
 | none=>rw [c] at h1; exact absurd h1 (by simp)
 | some j =>
   rw [c] at h1
   have h1:l[j]?.getD x=x:=yaQ h1
   have hj:=(ztn.mp (yaP c)).1
   rw [yad hj] at h1
   have h1:l[j]=x:=h1
   congr 1
   rw [← h1]
   exact (ybv nd j hj).symm
end
abbrev NN2:=Nat×Nat
def idL (n:Nat) (q:Nat->Rl) (R:Nat->List Nat) (o:List Nat):List NN2:=((List.range n).filter λb=>decide (∀ i∈o,b∉R i)).map (λb=>((0,b):NN2))++o.flatMap λi=>(List.range (q i).kr.length).map λb=>((i+1,b):NN2)
def kdM (ss:List Str) (q:Nat->Rl):NN2->Str
 | (0,b)=>ss[b]?.getD ""
 | (i+1,b)=>(q i).kr[b]?.getD ""
section
variable {n:Nat} {q:Nat->Rl} {R:Nat->List Nat} {o:List Nat}
theorem zlv {x:NN2}:x∈idL n q R o↔(x.1=0/\x.2<n/\∀ i∈o,x.2∉R i)\/∃ i∈o,x.1=i+1/\x.2<(q i).kr.length:=by
 obtain ⟨c,b⟩:=x
 unfold idL
 rw [yas,yal,yaV]
 constructor
 ·rintro (⟨b',h,e⟩ | ⟨i,hi,h⟩)
  ·obtain ⟨h1,h2⟩:=ya1.mp h
   injection e with e1 e2
   subst e1 e2
   exact .inl ⟨rfl,yav.mp h1,yai h2⟩
  ·obtain ⟨b',h0,e⟩:=yal.mp h
   injection e with e1 e2
   subst e1 e2
   exact .inr ⟨i,hi,rfl,yav.mp h0⟩
 ·rintro (⟨h1,h2,h3⟩ | ⟨i,hi,h1,h2⟩)
  ·have h1:c=0:=h1
   subst h1
   exact .inl ⟨b,ya1.mpr ⟨yav.mpr h2,yaj h3⟩,rfl⟩
  ·have h1:c=i+1:=h1
   subst h1
   exact .inr ⟨i,hi,yal.mpr ⟨b,yav.mpr h2,rfl⟩⟩
theorem zrF (nd:o.Nodup):(idL n q R o).Nodup:=by
 refine ybc.mpr ⟨zif (λa _ b _ e=>(ybq e).2) (ybW.filter _),List.pairwise_flatMap.mpr ⟨λi _=>zif (λa _ b _ e=>(ybq e).2) ybW,nd.imp (S:=λa b:Nat=>_) λ{a b} ne x hx y hy e => ?_⟩,λx hx y hy e => ?_⟩
 ·obtain ⟨b1,_,rfl⟩:=yal.mp hx
  obtain ⟨b2,_,rfl⟩:=yal.mp hy
  have:=(ybq e).1
  exact ne (by omega)
 ·obtain ⟨b1,_,rfl⟩:=yal.mp hx
  obtain ⟨i,_,hy⟩:=yaV.mp hy
  obtain ⟨b2,_,rfl⟩:=yal.mp hy
  exact absurd (ybq e).1 (ybX i).symm
theorem zlw {i:Nat}:idL n q R (o++[i])=((idL n q R o).filter λx=>decide (x∉(R i).map λb=>((0,b):NN2)))++(List.range (q i).kr.length).map λb=>((i+1,b):NN2):=by
 unfold idL
 rw [List.filter_append,List.flatMap_append,yah,List.filter_map,List.filter_filter]
 congr 1
 ·congr 1
  refine List.filter_congr λb _ => ?_
  rw [ybg,yap,yak]
  show _↔decide _=true/\decide _=true
  rw [yak,yak]
  constructor
  ·intro h
   refine ⟨λz => ?_,λj hj=>h j (yan _ hj)⟩
   obtain ⟨b',hb',e⟩:=yal.mp z
   have:b'=b:=(ybq e).2
   subst this
   exact h i (yag _ yaa) hb'
  ·rintro ⟨h1,h2⟩ j hj
   rcases yas.mp hj with hj | hj
   ·exact h2 j hj
   ·rw [yar.mp hj]
    exact λz=>h1 (yal.mpr ⟨b,z,rfl⟩)
 ·congr 1
  ·refine (List.filter_eq_self.mpr λx hx => ?_).symm
   obtain ⟨j,_,hx⟩:=yaV.mp hx
   obtain ⟨b,_,rfl⟩:=yal.mp hx
   refine yaj λz => ?_
   obtain ⟨b',_,e⟩:=yal.mp z
   exact absurd (ybq e).1 (ybX j).symm
  ·rw [List.flatMap_cons,List.flatMap_nil,yaE]
def nmO (n:Nat) (q:Nat->Rl) (R:Nat->List Nat) (o:List Nat) (v:EN):End:=if v.2.1=-1 then v.2 else ((((idL n q R o).idxOf (v.1,v.2.1.toNat):Nat):Int),v.2.2)
theorem zrG {v:EN} (h:v.2.1=-1):nmO n q R o v=v.2:=yaM h
theorem zhN {c b p:Nat}:nmO n q R o (c,((b:Int),(p:Int)))=((((idL n q R o).idxOf (c,b):Nat):Int),(p:Int)):=by
 unfold nmO
 rw [yaH (show ((b:Nat):Int)≠-1 by omega)]
 show ((((idL n q R o).idxOf (c,((b:Nat):Int).toNat):Nat):Int),(p:Int))=_
 rw [yaS]
end
section
variable {rows O:List D} {ss:List Str} {ws:List Wire} {rs:List D} {q:Nat->Rl} {R:Nat->List Nat} {L:Nat}
abbrev inO2 (o:List Nat):Nat->Prop:=λi=>i∈o
theorem Mny.form (M:Mny rows O ss ws rs q R L) {o:List Nat} (ho:∀ i,inO2 o i->i<L) {x:EN} (t:TM ws q R (inO2 o) x):(x.2.1=-1/\x.1=0/\∃ k:Nat,k<O.length/\x.2=(-1,(k:Int)))\/∃ c b p:Nat,x=(c,((b:Int),(p:Int)))/\(c,b)∈idL ss.length q R o/\p<npR rows (kdM ss q (c,b)):=by
 obtain ⟨c,e⟩:=x
 rcases t with ⟨h1,h2,h3⟩ | ⟨i,gi,h1,h2,h3⟩
 ·have h1:c=0:=h1
  subst h1
  have h2:e∈flat ws:=h2
  rcases M.N.nt.P.out e h2 with z | ⟨b,p,s,g1,g2,rfl⟩
  ·exact .inl ⟨z,rfl,M.N.nt.out e h2 z⟩
  ·have lb:=(yaf.mp g1).1
   refine .inr ⟨0,b,p,rfl,zlv.mpr (.inl ⟨rfl,lb,λi hi => ?_⟩),?_⟩
   ·rcases h3 with z | z
    ·have z:((b:Nat):Int)=-1:=z
     omega
    ·have:=z i hi
     have this:((b:Nat):Int).toNat∉R i:=this
     rwa [yaS] at this
   ·show p<npR rows (ss[b]?.getD "")
    rw [g1]
    exact g2
 ·have h1:c=i+1:=h1
  subst h1
  have h2:e∈flat (q i).wr:=h2
  rcases (M.Q i (ho i gi)).nt.P.out e h2 with z | ⟨b,p,s,g1,g2,rfl⟩
  ·exact absurd z h3
  ·have lb:=(yaf.mp g1).1
   refine .inr ⟨i+1,b,p,rfl,zlv.mpr (.inr ⟨i,gi,rfl,lb⟩),?_⟩
   show p<npR rows ((q i).kr[b]?.getD "")
   rw [g1]
   exact g2
theorem Mny.tm_mk (M:Mny rows O ss ws rs q R L) {o:List Nat} (ho:∀ i,inO2 o i->i<L) {c b p:Nat} (h:(c,b)∈idL ss.length q R o) (hp:p<npR rows (kdM ss q (c,b))):TM ws q R (inO2 o) (c,((b:Int),(p:Int))):=by
 rcases zlv.mp h with ⟨h1,h2,h3⟩ | ⟨i,hi,h1,h2⟩
 ·have h1:c=0:=h1
  subst h1
  have hb:ss[b]?=some (ss[b]'h2):=yad h2
  have hp:p<npR rows (ss[b]?.getD ""):=hp
  rw [hb] at hp
  refine .inl ⟨rfl,M.N.nt.P.all b p _ hb hp,.inr λi hi => ?_⟩
  show ((b:Nat):Int).toNat∉R i
  rw [yaS]
  exact h3 i hi
 ·have h1:c=i+1:=h1
  subst h1
  have hb:(q i).kr[b]?=some ((q i).kr[b]'h2):=yad h2
  have hp:p<npR rows ((q i).kr[b]?.getD ""):=hp
  rw [hb] at hp
  exact .inr ⟨i,hi,rfl,(M.Q i (ho i hi)).nt.P.all b p _ hb hp,by show ((b:Nat):Int)≠-1; omega⟩
theorem Mny.tm_out (M:Mny rows O ss ws rs q R L) {g:Nat->Prop} {k:Nat} (hk:k<O.length):TM ws q R g (0,(-1,(k:Int))):=.inl ⟨rfl,M.N.out_in hk,.inl rfl⟩
structure Wkd (M:Mny rows O ss ws rs q R L) (o:List Nat) (ho:∀ i,inO2 o i->i<L) (wC:List Wire) (κ:CT):Prop where
 net:NetN rows O ((idL ss.length q R o).map (kdM ss q)) wC (κ.map rgD)
 pr:∀ x y,TM ws q R (inO2 o) x->Path (M.G (inO2 o) ho) x y->Pr wC (nmO ss.length q R o x) (nmO ss.length q R o y)
 fl:∀ e∈flat wC,∃ x,TM ws q R (inO2 o) x/\e=nmO ss.length q R o x
def plc (n:Nat) (q:Nat->Rl) (R:Nat->List Nat) (o:List Nat) (i:Nat):List Nat:=(R i).map λb=>(idL n q R o).idxOf ((0,b):NN2)
section
variable {M:Mny rows O ss ws rs q R L} {o:List Nat} {ho:∀ i,inO2 o i->i<L} {wC:List Wire} {κ:CT} (W:Wkd M o ho wC κ) {i:Nat} (hi:i<L) (ni:i∉o)
include W hi ni
theorem Wkd.in_id {b:Nat} (hb:b∈R i):((0,b):NN2)∈idL ss.length q R o:=by
 obtain ⟨j,hj⟩:=List.getElem?_of_mem hb
 have lj:=(yaf.mp hj).1
 have h:=M.h i hi
 have lk:j<(q i).kl.length:=by
  have:=h.1
  omega
 have hk:=h.2.kind j _ (yad lk)
 have ef:fnR (R i) j=b:=by
  unfold fnR
  rw [hj]
  rfl
 rw [ef] at hk
 exact zlv.mpr (.inl ⟨rfl,(yaf.mp hk).1,λk hk2=>M.ap i k hi (ho k hk2) (λz=>ni (z▸hk2)) b hb⟩)
theorem Wkd.fnR {j:Nat} (hj:j<(R i).length):VW.fnR (plc ss.length q R o i) j=(idL ss.length q R o).idxOf ((0,VW.fnR (R i) j):NN2):=by
 unfold VW.fnR plc
 rw [yaA,yad hj]
 rfl
theorem Wkd.plOk:PlOk (q i).kl (q i).wl ((idL ss.length q R o).map (kdM ss q)) wC (plc ss.length q R o i):=by
 have h:=M.h i hi
 have lr:(R i).length=(q i).kl.length:=h.1
 have mem:∀ {j},j<(R i).length->VW.fnR (R i) j∈R i:=λ{j} hj=>yaP (zup hj)
 refine ⟨by unfold plc; rw [yac]; exact lr,λk s hk => ?_,λj k hj hk e => ?_,λe d p => ?_⟩
 ·have lk:=(yaf.mp hk).1
  rw [W.fnR hi ni (show k<(R i).length by omega),yaA,znz (W.in_id hi ni (mem (show k<(R i).length by omega)))]
  show some (ss[VW.fnR (R i) k]?.getD "")=_
  rw [h.2.kind k s hk]
  rfl
 ·rw [W.fnR hi ni (by omega),W.fnR hi ni (by omega)] at e
  have h1:=znz (W.in_id hi ni (mem (j:=j) (by omega)))
  rw [e,znz (W.in_id hi ni (mem (j:=k) (by omega)))] at h1
  have:=(ybq (yaQ h1)).2
  exact h.2.inj j k hj hk this.symm
 ·have pm:=h.2.wire e d p
  have Q:=M.Q i hi
  have box:∀ x,(∃ y,Pr (inn (q i).wl) x y)->∃ (j t:Nat),j<(R i).length/\x=((j:Int),(t:Int)):=λx ⟨y,w,hw,z⟩=>by
   obtain ⟨h1,h2⟩:=ya1.mp hw
   have b1:=yai h2
   have b2:=Q.pat.lft.box w h1
   have hx:x∈flat (q i).wl:=zfh.mpr ⟨w,h1,by rcases z with ⟨z,_⟩ | ⟨z,_⟩; exact .inl z; exact .inr z⟩
   rcases Q.pat.on.nt.P.out x hx with z1 | ⟨j,t,s,g1,_,g3⟩
   ·rcases z with ⟨z,_⟩ | ⟨z,_⟩<;>rw [z] at z1<;>omega
   ·have:=(yaf.mp g1).1
    exact ⟨j,t,by omega,g3⟩
  obtain ⟨j,t,hj,rfl⟩:=box e ⟨d,p⟩
  obtain ⟨j2,t2,hj2,rfl⟩:=box d ⟨_,p.symm⟩
  have cl:∀ (f:Nat->Nat) (a b:Nat),cal f ((a:Int),(b:Int))=(((f a:Nat):Int),(b:Int)):=λf a b=>by
   unfold cal
   rw [yaH (show ((a:Nat):Int)≠-1 by omega)]
   rfl
  rw [cl,cl] at pm ⊢
  rw [W.fnR hi ni hj,W.fnR hi ni hj2]
  have tm:∀ {b s:Nat},b∈R i->(((b:Int),(s:Int)):End)∈flat ws->TM ws q R (inO2 o) (0,((b:Int),(s:Int))):=λ{b s} hb hf=>.inl ⟨rfl,hf,.inr λk hk=>by
   show ((b:Nat):Int).toNat∉R k
   rw [yaS]
   exact M.ap i k hi (ho k hk) (λz=>ni (z▸hk)) b hb⟩
  have t1:=tm (mem hj) pm.mem.1
  have t2':=tm (mem hj2) pm.mem.2
  have pt:Path (M.G (inO2 o) ho) (0,(((VW.fnR (R i) j:Nat):Int),(t:Int))) (0,(((VW.fnR (R i) j2:Nat):Int),(t2:Int))):=by
   have e1:(M.G (inO2 o) ho).W (0,(((VW.fnR (R i) j:Nat):Int),(t:Int)))=(0,(((VW.fnR (R i) j2:Nat):Int),(t2:Int))):=by
    show (0,pf ws _)=_
    rw [zwp M.N.nt.P.nd pm]
   rw [← e1]
   exact .one _ (by rw [e1]; exact (M.tm_pm ho t2').2)
  have:=W.pr _ _ t1 pt
  rw [zhN,zhN] at this
  exact this
end
end
section
variable {rows O:List D} {ss:List Str} {ws:List Wire} {rs:List D} {q:Nat->Rl} {R:Nat->List Nat} {L:Nat}
variable {M:Mny rows O ss ws rs q R L} {o:List Nat} {ho:∀ i,inO2 o i->i<L} {wC:List Wire} {κ:CT} (W:Wkd M o ho wC κ) {i:Nat} (hi:i<L) (ni:i∉o) (ho':∀ j,inO2 (o++[i]) j->j<L)
theorem inO2_r {o:List Nat} {i:Nat}:inO2 (o++[i]) i:=yag _ (yar.mpr rfl)
include W hi ni
theorem Wkd.lset:LSet (npR rows) ((idL ss.length q R o).map (kdM ss q)) wC (q i).kl (q i).wl (q i).kr (q i).wr (plc ss.length q R o i) (q i).O.length:=LSet.of W.net (M.Q i hi) (W.plOk hi ni)
omit hi ni W in
theorem zrH:plc ss.length q R o i=((R i).map λb=>((0,b):NN2)).map λx=>(idL ss.length q R o).idxOf x:=by
 unfold plc
 rw [yaK]
 rfl
omit hi ni W in
theorem zut:((idL ss.length q R o).map (kdM ss q)).length=(idL ss.length q R o).length:=yac ..
theorem Wkd.subA:∀ a∈(R i).map (λb=>((0,b):NN2)),a∈idL ss.length q R o:=λa ha=>by
 obtain ⟨b,hb,rfl⟩:=yal.mp ha
 exact W.in_id hi ni hb
theorem Wkd.inA {x:NN2} (hx:x∈idL ss.length q R o):(idL ss.length q R o).idxOf x∈plc ss.length q R o i↔x∈(R i).map λb=>((0,b):NN2):=by
 rw [zrH,yal]
 constructor
 ·rintro ⟨a,ha,e⟩
  have h1:=znz (W.subA hi ni a ha)
  rw [e,znz hx] at h1
  rw [yaQ h1]
  exact ha
 ·exact λh=>⟨x,h,rfl⟩
variable (nd:o.Nodup)
include nd
theorem Wkd.nmS {c b p:Nat} (h:(c,b)∈idL ss.length q R o) (hA:(c,b)∉(R i).map λb=>((0,b):NN2)):nmE (stO ((idL ss.length q R o).map (kdM ss q)) (plc ss.length q R o i)) (true,nmO ss.length q R o (c,((b:Int),(p:Int))))=nmO ss.length q R (o++[i]) (c,((b:Int),(p:Int))):=by
 have e1:stO ((idL ss.length q R o).map (kdM ss q)) (plc ss.length q R o i)=zha (idL ss.length q R o).length (((R i).map λb=>((0,b):NN2)).map λx=>(idL ss.length q R o).idxOf x):=by
  show zha _ _=_
  rw [zut,zrH]
 rw [zhN,nm_box,e1,ztq (zrF nd) (W.subA hi ni) h hA,zhN,zlw,List.idxOf_append,yaM (ya1.mpr ⟨h,yaj hA⟩)]
theorem Wkd.nmR {b p:Nat} (h:b<(q i).kr.length):nmE (stO ((idL ss.length q R o).map (kdM ss q)) (plc ss.length q R o i)) (false,((b:Int),(p:Int)))=nmO ss.length q R (o++[i]) (i+1,((b:Int),(p:Int))):=by
 have e1:stO ((idL ss.length q R o).map (kdM ss q)) (plc ss.length q R o i)=zha (idL ss.length q R o).length (((R i).map λb=>((0,b):NN2)).map λx=>(idL ss.length q R o).idxOf x):=by
  show zha _ _=_
  rw [zut,zrH]
 have nd2:(o++[i]).Nodup:=ybc.mpr ⟨nd,ya8.mpr ⟨yaF,ybr⟩,λa ha b hb e=>ni (by rw [← yar.mp hb,← e]; exact ha)⟩
 have e2:(idL ss.length q R (o++[i])).idxOf ((i+1,b):NN2)=(zha (idL ss.length q R o).length (((R i).map λb=>((0,b):NN2)).map λx=>(idL ss.length q R o).idxOf x)).length+b:=by
  refine zwr (zrF nd2) ?_
  rw [zrE (zrF nd) (W.subA hi ni),zlw,yb1 (Nat.le_add_right _ _),Nat.add_sub_cancel_left,yaA,ybd h]
  rfl
 rw [zto,zhN,e2,e1]
include ho' in
theorem Wkd.up (x':Bool×End) (tx:Term wC (q i).wr (plc ss.length q R o i) x'):∃ x3,Vis (M.G (inO2 o) ho) (PM ws q R (inO2 o)) (λe=>e∈flat (q i).wr) (λv=>v) (λe=>((i+1,e):EN)) (λv=>(true,nmO ss.length q R o v)) (λe=>((false,e):Bool×End)) x3 x'/\TM ws q R (inO2 (o++[i])) x3/\nmE (stO ((idL ss.length q R o).map (kdM ss q)) (plc ss.length q R o i)) x'=nmO ss.length q R (o++[i]) x3:=by
 obtain ⟨c,e⟩:=x'
 cases c with
 | true =>
   obtain ⟨h1,h2⟩:e∈flat wC/\(e.1=-1\/e.1.toNat∉plc ss.length q R o i):=tx
   obtain ⟨x,t,rfl⟩:=W.fl e h1
   obtain ⟨p1,p2⟩:=M.tm_pm ho t
   refine ⟨x,.inl ⟨x,p1,p2,rfl,rfl⟩,?_⟩
   rcases M.form ho t with ⟨x1,x2,k,hk,x3⟩ | ⟨c,b,p,rfl,hx,hp⟩
   ·have ex:x=(0,(-1,(k:Int))):=Prod.ext x2 x3
    rw [ex]
    refine ⟨M.tm_out hk,?_⟩
    rw [zrG rfl,zrG rfl]
    exact nm_out rfl
   ·have hA:(c,b)∉(R i).map λb=>((0,b):NN2):=λz=>by
     have hz:=(W.inA hi ni hx).mpr z
     rw [zhN] at h2
     rcases h2 with h2 | h2
     ·have h2:(((idL ss.length q R o).idxOf (c,b):Nat):Int)=-1:=h2
      omega
     ·have h2:(((idL ss.length q R o).idxOf (c,b):Nat):Int).toNat∉plc ss.length q R o i:=h2
      rw [yaS] at h2
      exact h2 hz
    refine ⟨M.tm_mk ho' ?_ hp,W.nmS hi ni nd hx hA⟩
    rw [zlw]
    exact yan _ (ya1.mpr ⟨hx,yaj hA⟩)
 | false =>
   obtain ⟨b,p,s,g1,g2,rfl⟩:=zpt (W.lset hi ni) tx
   have h1:(((b:Int),(p:Int)):End)∈flat (q i).wr:=And.left (show _∈flat (q i).wr/\_ from tx)
   have lb:=(yaf.mp g1).1
   refine ⟨(i+1,((b:Int),(p:Int))),.inr ⟨_,h1,rfl,rfl⟩,.inr ⟨i,inO2_r,rfl,h1,by show ((b:Nat):Int)≠-1; omega⟩,W.nmR hi ni nd lb⟩
end
section
variable {rows O:List D} {ss:List Str} {ws:List Wire} {rs:List D} {q:Nat->Rl} {Pq:Nat->List Nat} {L:Nat}
variable (M:Mny rows O ss ws rs q Pq L)
include M
omit M in
theorem orF (x:R Bool):orB false x=x:=rfl
end
end VW
set_option maxHeartbeats 4000000
namespace VW
open PySem PySem.Spec PyProof.Rows L2 R
section
variable {rows O:List D}
def GN (rows O:List D) (k:Nat) (d:D):Prop:=∃ ss ws rs,d=netD O ss ws rs/\NetN rows O ss ws rs/\ss.length<=60/\rs.length<=k
theorem GN.le {k j:Nat} {d:D} (h:GN rows O k d) (l:k<=j):GN rows O j d:=by
 obtain ⟨ss,ws,rs,e,N,a,b⟩:=h
 exact ⟨ss,ws,rs,e,N,a,by omega⟩
section
variable {q:Nat->Rl} {L:Nat} {rulesD:List D}
def Fwd (O:List D) (rows:List D) (q:Nat->Rl) (L:Nat) (A B:D) (i:Nat) (r nm:List Nat):Prop:=∃ ss ws rs,A=netD O ss ws rs/\NetN rows O ss ws rs/\i<L/\PlOk (q i).kl (q i).wl ss ws r/\∃ C,n_laid A (q i).d (rowT r)=.ok C/\zne C B (rowT nm)=.ok true
structure St where
 fw:Bool
 i:Nat
 r:List Nat
 T:D
 nm:List Nat
def StepS (O rows:List D) (q:Nat->Rl) (L:Nat) (A:D) (s:St):Prop:=if s.fw=true then Fwd O rows q L A s.T s.i s.r s.nm else Fwd O rows q L s.T A s.i s.r s.nm
def RoadS (O rows:List D) (q:Nat->Rl) (L:Nat) (k:Nat):D->List St->Prop
 | _,[]=>True
 | A,s::r=>StepS O rows q L A s/\GN rows O k s.T/\RoadS O rows q L k s.T r
end
end
theorem ztr {n:Nat} {d:D} (h:Sm n d):eqD d d=true:=by
 obtain ⟨p,e,_,c⟩:=h.py
 unfold eqD
 rw [e]
 exact PySem.SeqAt.eqv_refl p c
theorem zrI {n:Nat} {d:D} (h:Sm n d) (hn:n<=60):nEq true d d=.ok false:=by
 rw [zvR (h.eqOk h hn hn),ztr h]
 rfl
section
variable {rows O:List D} {q:Nat->Rl} {L:Nat} {rulesD:List D}
def GJ (rows O:List D) (j:Nat) (d:D):Prop:=∃ ss ws rs,d=netD O ss ws rs/\NetN rows O ss ws rs/\ss.length<=11+24*j/\rs.length<=100+112*j
theorem GJ.le {k j:Nat} {d:D} (h:GJ rows O j d) (l:j<=k):GJ rows O k d:=by
 obtain ⟨ss,ws,rs,e,N,a,b⟩:=h
 exact ⟨ss,ws,rs,e,N,by omega,by omega⟩
end
theorem zrJ {ts:List Str} (ne:ts≠[]) (h:∀ r∈ts,32∉TL.tl r):Txt.split (Txt.join " " ts) " " = ts :=
 TL.split_join (s:=32) (S:=[]) (by decide +kernel) (by decide +kernel) ne h
theorem zmB {x:Nat} {S:List Nat}:∀ {ps:List (List Nat)},x∈TL.joinL S ps->x∈S\/∃ p∈ps,x∈p
 | [],h=>nomatch h
 | [p],h=>.inr ⟨p,yar.mpr rfl,h⟩
 | p::q::r,h=>by
   have h:x∈p++(S++TL.joinL S (q::r)):=h
   rcases yas.mp h with h | h
   ·exact .inr ⟨p,yaa,h⟩
   ·rcases yas.mp h with h | h
    ·exact .inl h
    ·rcases zmB h with h | ⟨p',h1,h2⟩
     ·exact .inl h
     ·exact .inr ⟨p',yab _ h1,h2⟩
theorem ziF (y:Str) (ts:List Str):TL.tl (Txt.join y ts)=TL.joinL (TL.tl y) (ts.map TL.tl):=by
 rw [TL.join_eq,TL.tl_join]
theorem zws {y:Str} {t1 t2:Str} {ts:List Str} {x:Nat} (h:x∈TL.tl y):x∈TL.tl (Txt.join y (t1::t2::ts)):=by
 rw [ziF]
 show x∈TL.tl t1++(TL.tl y++_)
 exact yag _ (yan _ h)
theorem zmC {S:List Nat} {n:Nat}:∀ {ps:List (List Nat)},(∀ p∈ps,p.length<=n)->(TL.joinL S ps).length<=ps.length*(n+S.length)
 | [],_=>ya4 _
 | [p],h=>by
   have:=h p (yar.mpr rfl)
   show p.length<=1*(n+S.length)
   omega
 | p::q::r,h=>by
   have h1:=h p yaa
   have h2:=zmC (S:=S) (ps:=q::r) λx hx=>h x (yab _ hx)
   show (p++(S++TL.joinL S (q::r))).length<=_
   rw [yax,yax,yaq,Nat.add_mul,Nat.one_mul]
   omega
theorem zrK {y:Str} {ts:List Str} {n:Nat} (h:∀ t∈ts,t.length<=n):(Txt.join y ts).length<=ts.length*(n+y.length):=by
 rw [ybb,ziF,ybb y]
 have:=zmC (S:=TL.tl y) (n:=n) (ps:=ts.map TL.tl) λp hp=>by
  obtain ⟨t,ht,rfl⟩:=yal.mp hp
  rw [← ybb]
  exact h t ht
 rwa [yac] at this
theorem zwt {s t:Str} (h:1<=t.length) (hl:s.length+2<=16777216):zgb (.str s) (.str t)=.ok ((Txt.split s t).map D.str):=by
 refine zaV ?_
 rw [yap]
 refine ⟨?_,Nat.ble_eq_true_of_le hl⟩
 rw [ybG,beq_eq_false_iff_ne]
 omega
def okS (s:Str):Prop:=∀ c∈TL.tl s,c<128/\c≠32/\c≠44/\c≠59
theorem okS.of {s:Str} (h:(TL.tl s).all (λc=>decide (c<128/\c≠32/\c≠44/\c≠59))=true):okS s:=λc hc=>yai (yam.mp h c hc)
theorem zts {s:Str} (h:∀ c∈TL.tl s,c<128):PyData.strOk s=true:=by
 unfold PyData.strOk
 rw [← ycm,yam]
 exact λc hc=>yaj (by have:=h c hc; omega)
theorem zoE {y:Str} {ts:List Str} {c:Nat} (h:c∈TL.tl (Txt.join y ts)):c∈TL.tl y\/∃ t∈ts,c∈TL.tl t:=by
 rw [ziF] at h
 rcases zmB h with z | ⟨p,hp,z⟩
 ·exact .inl z
 ·obtain ⟨t,ht,rfl⟩:=yal.mp hp
  exact .inr ⟨t,ht,z⟩
section
variable {rows O:List D} {q:Nat->Rl} {L:Nat} {rulesD:List D}
theorem RoadS.le {k k':Nat} (l:k<=k'):∀ {rd:List St} {A:D},RoadS O rows q L k A rd->RoadS O rows q L k' A rd
 | [],_,_=>trivial
 | _::rd,_,⟨h1,h2,h3⟩=>⟨h1,h2.le l,RoadS.le l h3⟩
end
structure WOk (W:List (List Str)):Prop where
 many:W.length<=130
 two:∀ ts∈W,2<=ts.length/\ts.length<=5
 ok:∀ ts∈W,∀ t∈ts,okS t/\t.length<=9
def rowJ (ts:List Str):Str:=Txt.join " " ts
theorem tl_sp:TL.tl (" " : Str)=[32]:=by decide +kernel
section
variable {W:List (List Str)}
theorem WOk.row (h:WOk W) {ts:List Str} (ht:ts∈W):(∀ c∈TL.tl (rowJ ts),c<128/\c≠44/\c≠59)/\32∈TL.tl (rowJ ts)/\(rowJ ts).length<=50/\Txt.split (rowJ ts) " " = ts:=by
 have l:=h.two ts ht
 have k:=h.ok ts ht
 refine ⟨λc hc => ?_,?_,?_,?_⟩
 ·rcases zoE hc with z | ⟨t,h1,h2⟩
  ·rw [tl_sp,yar] at z
   rw [z]
   decide
  ·have:=(k t h1).1 c h2
   exact ⟨this.1,this.2.2.1,this.2.2.2⟩
 ·match ts,l with
  | a::b::r,_=>exact zws (by rw [tl_sp]; exact yar.mpr rfl)
 ·have:=zrK (y := " ") (n:=9) λt ht=>(k t ht).2
  have e:(" " : Str).length=1:=by decide +kernel
  rw [e] at this
  have:(rowJ ts).length<=ts.length*10:=this
  omega
 ·refine zrJ (λe => ?_) λt h1 z => ?_
  ·rw [e] at l
   exact absurd l.1 (by decide)
  ·exact ((k t h1).1 32 z).2.1 rfl
end
def nmS (L:List (End×D)) (e:End):Str:=match getK (zgi L) (eK e) with
 | some (.str s)=>s
 | _ => ""
def ztt:D->Str
 | .tup [.str a,.str _]=>a
 | _ => ""
def zrL:D->Str
 | .tup [.str _,.str s]=>s
 | _ => ""
theorem zhb {s:Str} (h:zaK s=true):okS s/\1<=s.length/\s.length<=8:=by
 unfold zaK at h
 rw [yap,yap,yak,yak] at h
 refine ⟨λc hc => ?_,h.1⟩
 have m:c∈zbG:=yai (yam.mp h.2 c hc)
 exact yai (yam.mp (show zbG.all (λc=>decide (c<128/\c≠32/\c≠44/\c≠59))=true by decide +kernel) c m)
section
variable {rows O:List D} {ss:List Str} {ws:List Wire} {κ:List (Str×Int)} {us:List Str}
theorem zkA {d:D} (h:zeK d):d=.tup [.str (ztt d),.str (zrL d)]/\zaK (ztt d)=true/\(zrL d = "+" \/ zrL d = "-"):=by
 obtain ⟨a,s,rfl,h1,h2⟩:=h
 exact ⟨rfl,h1,h2⟩
theorem zrM {s:Str} (h:s = "+" \/ s = "-"):okS s/\s.length=1:=by
 rcases h with rfl | rfl
 ·exact ⟨okS.of (by decide +kernel),by decide +kernel⟩
 ·exact ⟨okS.of (by decide +kernel),by decide +kernel⟩
theorem znA (a b:Str):(a++b).length=a.length+b.length:=by
 rw [ybb,TL.tl_append,yax,← ybb,← ybb]
end
def sdW (w:Str):Str:=cutS w none (some 1)
def naW (w:Str):Str:=cutS w (some 1) none
def zeV (w:Str):Bool:=zgh (.str (sdW w))&&zaK (naW w)
def zeL (w:Str):D:=.tup [.str (naW w),.str (sdW w)]
def TxS (n:Nat) (s:Str):Prop:=s.length<=n/\∀ c∈TL.tl s,c<128
theorem TxS.mono {n m:Nat} {s:Str} (h:TxS n s) (k:n<=m):TxS m s:=⟨ya5 h.1 k,h.2⟩
theorem TxS.sm {n:Nat} {s:Str} (h:TxS n s) (k:n<=1000):Sm 0 (.str s):=⟨ya5 h.1 k,zts h.2⟩
theorem zuu (w:Str):TL.tl (naW w)=(TL.tl w).drop 1:=zot (by decide)
theorem zuv (w:Str):TL.tl (sdW w)=(TL.tl w).take 1:=zui (by decide)
theorem TxS.na {n:Nat} {w:Str} (h:TxS n w):TxS n (naW w):=⟨by
 rw [ybb,zuu,ybJ,← ybb]
 have:=h.1
 omega,λc hc=>h.2 c (by rw [zuu] at hc; exact ybI hc)⟩
theorem TxS.sd {n:Nat} {w:Str} (h:TxS n w):TxS n (sdW w):=⟨by
 rw [ybb,zuv,ybA,← ybb]
 have:=h.1
 omega,λc hc=>h.2 c (by rw [zuv] at hc; exact ybl hc)⟩
theorem zmD (neg:Bool) (s:Str):nIn neg (.str s) (.tup [.str "+",.str "-"])=.ok (xorB neg (zgh (.str s))):=by
 show R.ok (xorB neg (L2.inV (V.str s) [V.str "+",V.str "-"]))=_
 have:=zrc s
 unfold xorB at this ⊢
 simp only [ya9,ych] at this
 rw [this]
theorem zrN (neg:Bool) (s:Str):nIn neg (.str s) (.lst [.str "+",.str "-"])=.ok (xorB neg (zgh (.str s))):=zmD neg s
theorem zmE {w:Str} (h:TxS 1000 w):zcj (.str w)=if zeV w=true then .ok (zeL w) else .ex ⟨"NoText",some ("at",.int 0)⟩:=by
 have l:w.length<=sizeLine:=by rw [zcn]; have:=h.1; omega
 have i1:nInt (.int 1)=.ok 1:=rfl
 have pl:nPl (.int 0)=.ok ():=rfl
 unfold zcj
 simp only [i1,zac,zeI l,fz_d,pl]
 rw [show cutS w none (some 1)=sdW w from rfl,show cutS w (some 1) none=naW w from rfl,zmD,zac]
 unfold zeV
 cases hs:zgh (.str (sdW w)) with
 | false=>rfl
 | true =>
   have ne:w ≠ "" := λz=>by
    rw [z] at hs
    exact absurd hs (by decide +kernel)
   rw [show xorB true true=false from rfl,orF,nE_ss,zac,yaN ne,orF,zjD (h.na.sm (by decide))]
   show (R.bind (R.ok (!(zaK (naW w)))) _)=_
   rw [zac]
   cases zaK (naW w)<;>rfl
theorem zmF {s:Str} (h:TxS 1000 s):zdO (.str s)=.ok (zaK s):=by
 have hl:s.length<=sizeLine:=by rw [zcn]; have:=h.1; omega
 have hsz:(s.cps.toList.map sgn).length<=sizeLine:=by
  rw [yac,yaU]
  exact hl
 have e:lcF (λd_1:D=>R.bind (nIn true d_1 (.str "abcdefghijklmnopqrstuvwxyz")) λt_4=>if t_4=true then (.ok ((some d_1)):R (Option D)) else .ok none) (s.cps.toList.map sgn) =
  .ok ((s.cps.toList.map sgn).filterMap λd=>match d with
  | .str s=>if s.cps.toList.all (λc=>decide (c∈zbG))=true then none else some d
  | _=>none):=zvW hsz λd hd=>by
  obtain ⟨c,_,rfl⟩:=yal.mp hd
  rw [zrl]
  show (if (xorB true (decide (c∈zbG)))=true then (R.ok (some (sgn c)):R (Option D)) else R.ok none)=R.ok (if [c].all (λc=>decide (c∈zbG))=true then none else some (sgn c))
  by_cases hc:c∈zbG<;>simp [hc,xorB]
 unfold zdO
 simp only [zac,zg6 hl,zdV,zpe,zhr,zhK,e,zeB,zjB]
 unfold zaK
 rw [show decide ((1:Int)<=(s.length:Int))=decide (1<=s.length) by rw [yaW]; omega,show decide ((s.length:Int)<=8)=decide (s.length<=8) by rw [yaW]; omega]
 cases hb:(decide (1<=s.length)&&decide (s.length<=8)) with
 | false=>rfl
 | true =>
   rw [yaR,yaR,yaH yat]
   congr 1
   rw [ybg,yak,yam]
   rw [show ((0:Int))=((0:Nat):Int) from rfl,Int.ofNat_inj,List.length_eq_zero_iff,List.filterMap_eq_nil_iff]
   constructor
   ·intro h c hc
    have z:=h _ (List.mem_map_of_mem hc)
    have z:(if [c].all (λc=>decide (c∈zbG))=true then none else some (sgn c))=none:=z
    by_cases hc:c∈zbG
    ·exact yaj hc
    ·simp [hc] at z
   ·intro h d hd
    obtain ⟨c,hc,rfl⟩:=yal.mp hd
    show (if [c].all (λc=>decide (c∈zbG))=true then none else some (sgn c))=none
    have:=yai (h c hc)
    simp [this]
theorem znB {x:Nat}:∀ (l acc:List Nat),TL.spl [x] 0 acc l≠[]/\(TL.spl [x] 0 acc l).length<=l.length+1/\∀ p∈TL.spl [x] 0 acc l,p.length<=acc.length+l.length/\∀ c∈p,c∈acc\/c∈l
 | [],acc=>by
   rw [TL.spl_nil]
   refine ⟨by simp,by simp,λp hp => ?_⟩
   rw [yar.mp hp]
   exact ⟨by simp,λc hc=>.inl hc⟩
 | c::r,acc=>by
   cases h:TL.pre [x] (c::r) with
   | true =>
     rw [TL.spl_hit h]
     obtain ⟨h1,h2,h3⟩:=znB r []
     refine ⟨by simp,by simp only [yaq,ya2]; exact ycl h2,λp hp => ?_⟩
     rcases yao.mp hp with rfl | hp
     ·exact ⟨by omega,λc hc=>.inl hc⟩
     ·obtain ⟨a,b⟩:=h3 p hp
      refine ⟨by simp only [ya2,yaq] at a ⊢; omega,λc hc => ?_⟩
      rcases b c hc with z | z
      ·cases z
      ·exact .inr (yab _ z)
   | false =>
     rw [TL.spl_miss h]
     obtain ⟨h1,h2,h3⟩:=znB r (acc++[c])
     refine ⟨h1,by simp only [yaq]; omega,λp hp => ?_⟩
     obtain ⟨a,b⟩:=h3 p hp
     refine ⟨by simp only [yax,yaq,ya2] at a ⊢; omega,λc' hc => ?_⟩
     rcases b c' hc with z | z
     ·rcases yas.mp z with z | z
      ·exact .inl z
      ·exact .inr (by rw [yar.mp z]; exact yaa)
     ·exact .inr (yab _ z)
def zbu (T:Str):List Str:=Txt.split T " "
theorem zhc {n:Nat} {T:Str} (h:TxS n T):zbu T≠[]/\(zbu T).length<=n+1/\∀ w∈zbu T,TxS n w:=by
 have e:(zbu T).map TL.tl=TL.spl [32] 0 [] (TL.tl T):=by
  have:=TL.split_spl T " " (by decide +kernel) (TL.kind_ok (by decide +kernel))
  rw [show TL.tl (" " : Str)=[32] by decide +kernel] at this
  exact this
 obtain ⟨h1,h2,h3⟩:=znB (x:=32) (TL.tl T) []
 rw [← e] at h1 h2 h3
 have l:=h.1
 rw [ybb] at l
 refine ⟨λz=>h1 (by rw [z]; rfl),by rw [yac] at h2; omega,λw hw => ?_⟩
 obtain ⟨a,b⟩:=h3 (TL.tl w) (yal.mpr ⟨w,hw,rfl⟩)
 refine ⟨by rw [ybb]; simp only [ya2] at a; omega,λc hc => ?_⟩
 rcases b c hc with z | z
 ·cases z
 ·exact h.2 c z
theorem zlx {T:Str} (h:TxS 900 T):zgb (.str T) (.str " ")=.ok ((zbu T).map D.str):=zwt (by decide) (by have:=h.1; omega)
def rowOf:List Str->Option D
 | k::e::ws=>if (decide (e = "=")&&zaK k&&(decide (1<=ws.length)&&decide (ws.length<=4))&&ws.all zeV)=true then some (.tup [.str k,.tup (ws.map zeL)]) else none
 | _=>none
def rowW (T:Str):Option D:=rowOf (zbu T)
theorem cut2 {α:Type} (a b:α) (l:List α):cutD (a::b::l) (some 2) none=l:=by
 unfold cutD HT.sIx
 dsimp only
 rw [yaH (by decide)]
 simp only [yaq]
 rw [Nat.min_eq_left (show (2:Int).toNat<=l.length+1+1 by show 2<=_; omega)]
 show List.take _ l=l
 rw [List.take_of_length_le]
 show l.length<=l.length+1+1-2
 omega
theorem zwu (a b:D) (l:List D):nIx (.lst (a::b::l)) (.int 1)=.ok b:=zq9 _ _ _
theorem i3 (n:Nat):decide ((3:Int)<=((n+1+1:Nat):Int))=decide (1<=n):=by rw [yaW]; omega
theorem i6 (n:Nat):decide (((n+1+1:Nat):Int)<=6)=decide (n<=4):=by rw [yaW]; omega
theorem lt3 (n:Nat):decide (((n+1+1:Nat):Int)<3) = !decide (1<=n):=by
 rw [ybg,yak,ybG,decide_eq_false_iff_not]; omega
def nonO:Option D->D
 | some d=>d
 | none=>.non
theorem zrO {T:Str} (h:TxS 900 T):zeS (.str T)=.ok (nonO (rowW T)):=by
 obtain ⟨w1,w2,w3⟩:=zhc h
 unfold zeS
 rw [show nTy "str" (.str T)=.ok () from rfl,zac,zlx h,zac]
 unfold rowW
 generalize zbu T=ws at w1 w2 w3 ⊢
 match ws,w1 with
 | [k],_=>rfl
 | k::e::ws,_ =>
   have hk:=w3 k yaa
   have hw:∀ w∈ws,TxS 900 w:=λw hw=>w3 w (yab _ (yab _ hw))
   have ls:(ws.map D.str).length<=sizeLine:=by
    rw [yac,zcn]
    simp only [yaq] at w2
    omega
   have body:R.forN zfR (λ(s_2:Unit) =>
    R.bind (nIx (.lst ((k::e::ws).map D.str)) (.int 0)) λt_14 =>
    R.bind (nInt (.int 2)) λi_4 =>
    R.bind (nSl (.lst ((k::e::ws).map D.str)) (some i_4) none) λt_15 =>
    R.bind (zbf t_15.d) λds_2 =>
    R.bind (lcM (λd_2:D=>R.bind (nInt (.int 1)) λi_5=>R.bind (nSl d_2 (some i_5) none) λt_16=>R.bind (nInt (.int 1)) λi_6=>R.bind (nSl d_2 none (some i_6)) λt_17=>.ok ((.tup [t_16.d,t_17.d]))) ds_2) λxs_1 =>
    R.bind (zcC (.lst xs_1)) λt_18 =>
    .ok (.tup [t_14,t_18])) (ws.map D.str) ()=if ws.all zeV=true then .ok (.tup [.str k,.tup (ws.map zeL)]) else .ok .non:=by
    rw [zlj (p:=fun d=>match d with
        | .str w=>zeV w
        | _=>false) (r:=.ok .non)]
    ·rw [yb4,show ((λd=>match d with
      | D.str w=>zeV w
      | _=>false)∘D.str)=zeV from rfl]
     have i2:nInt (.int 2)=.ok 2:=rfl
     have i1:nInt (.int 1)=.ok 1:=rfl
     have ix:nIx (.lst ((k::e::ws).map D.str)) (.int 0)=.ok (.str k):=zh8 _ _
     have em:lcM (λd_2:D=>R.bind (nInt (.int 1)) λi_5=>R.bind (nSl d_2 (some i_5) none) λt_16=>R.bind (nInt (.int 1)) λi_6=>R.bind (nSl d_2 none (some i_6)) λt_17=>.ok ((.tup [t_16.d,t_17.d]))) (ws.map D.str) =
      .ok ((ws.map D.str).map λd=>match d with
       | .str w=>zeL w
       | _=>.non):=zeJ ls λd hd=>by
      obtain ⟨w,hw',rfl⟩:=yal.mp hd
      have lw:w.length<=sizeLine:=by rw [zcn]; have:=(hw w hw').1; omega
      rw [i1,zac,zeI lw,zac,zac,zeI lw,zac]
      rfl
     have em2:((ws.map D.str).map λd=>match d with
      | .str w=>zeL w
      | _=>.non)=ws.map zeL:=by rw [yaK]; rfl
     rw [ix,zac,i2,zac,zhL,zac]
     show (if _ then (R.bind (zbf (.lst (cutD (D.str k::D.str e::ws.map D.str) (some 2) none))) _) else _)=_
     rw [cut2,show zbf (.lst (ws.map D.str))=.ok (ws.map D.str) from rfl,zac,em,zac,em2]
     rfl
    ·intro d hd K
     obtain ⟨w,hw',rfl⟩:=yal.mp hd
     have lw:w.length<=sizeLine:=by rw [zcn]; have:=(hw w hw').1; omega
     unfold zfR
     rw [show nInt (.int 1)=.ok 1 from rfl,zac,zeI lw,zac]
     show (R.bind (nIn true (.str (sdW w)) _) _)=if zeV w=true then K () else _
     rw [zrN,zac]
     unfold zeV
     cases hs:zgh (.str (sdW w)) with
     | false=>rfl
     | true =>
       rw [show xorB true true=false from rfl,orF,zac,zeI lw,zac]
       show (R.bind (R.bind (zdO (.str (naW w))) _) _)=_
       rw [zmF ((hw w hw').na.mono (by decide)),zac,zac]
       cases zaK (naW w)<;>rfl
   have nm:zdO (.str k)=.ok (zaK k):=zmF (hk.mono (by decide))
   have ix1:nIx (.lst ((k::e::ws).map D.str)) (.int 1)=.ok (.str e):=zwu _ _ _
   have ix0:nIx (.lst ((k::e::ws).map D.str)) (.int 0)=.ok (.str k):=zh8 _ _
   rw [zeB,zac,zdV,zac,zdV,zhr,zac,yac]
   simp only [zpe,yaq]
   rw [i3,i6]
   show _=R.ok (nonO (if (decide (e = "=")&&zaK k&&(decide (1<=ws.length)&&decide (ws.length<=4))&&ws.all zeV)=true then _ else _))
   cases hl:(decide (1<=ws.length)&&decide (ws.length<=4)) with
   | false =>
     rw [ycv,ycw]
     rfl
   | true =>
     rw [ya3,orF,ix1,zac,zra,zac]
     by_cases he:e = "="
     ·rw [ix0,zac,nm,zac]
      simp only [he,ybY,yaR]
      cases hn:zaK k with
      | false=>rfl
      | true =>
        rw [ycC,ya3,zi3,Bool.or_false,zac,yaH yat]
        rw [he] at ix0
        rw [← ix0]
        rw [show nInt (.int 2)=.ok 2 from rfl,zac,zhL,zac]
        have c:cutD (List.map D.str (k :: "=" :: ws)) (some 2) none=ws.map D.str:=cut2 _ _ _
        rw [c]
        rw [he] at body
        show (R.bind (zbf (.lst (ws.map D.str))) _)=_
        rw [show zbf (.lst (ws.map D.str))=.ok (ws.map D.str) from rfl,zac]
        refine body.trans ?_
        cases ws.all zeV<;>rfl
     ·simp only [he,ybE]
      rfl
abbrev noT (k:Int):Xn:=⟨"NoText",some ("at",.int k)⟩
abbrev twX (s:Str):Xn:=⟨"Twice",some ("name",.str s)⟩
theorem zoF:∀ {ws:List Str},(∀ w∈ws,TxS 1000 w)->zl3 (λd=>zcj d) (ws.map D.str)=if ws.all zeV=true then .ok (ws.map zeL) else .ex (noT 0)
 | [],_=>rfl
 | w::ws,h=>by
   rw [yau]
   unfold zl3
   rw [zmE (h w yaa),zoF λw hw=>h w (yab _ hw),ybQ]
   cases zeV w with
   | false=>rfl
   | true =>
     rw [yaR]
     cases ws.all zeV<;>rfl
theorem ztu (w:Str):zia (zeL w)=zeV w:=Bool.and_comm _ _
theorem znC {T:Str} (h:TxS 900 T) (a:Int):zbX (.str T) (.int a)=match rowW T with
 | some r=>.ok r
 | none=>.ex (noT a):=by
 obtain ⟨w1,w2,w3⟩:=zhc h
 have pl:nPl (.int a)=.ok ():=rfl
 unfold zbX
 rw [show nTy "str" (.str T)=.ok () from rfl,zac,zlx h,zac]
 unfold rowW
 generalize zbu T=ws at w1 w2 w3 ⊢
 match ws,w1 with
 | [k],_=>rfl
 | k::e::ws,_ =>
   have hk:=w3 k yaa
   have hw:∀ w∈ws,TxS 900 w:=λw hw=>w3 w (yab _ (yab _ hw))
   have lw:ws.length<=1000:=by
    simp only [yaq] at w2
    omega
   have ls:(ws.map D.str).length<=sizeLine:=by rw [yac,zcn]; omega
   have ix1:nIx (.lst ((k::e::ws).map D.str)) (.int 1)=.ok (.str e):=zq9 _ _ _
   have ix0:nIx (.lst ((k::e::ws).map D.str)) (.int 0)=.ok (.str k):=zh8 _ _
   rw [zeB,zac,zdV,zac,yac]
   simp only [zvT,yaq]
   rw [lt3]
   show _=(match (if (decide (e = "=")&&zaK k&&(decide (1<=ws.length)&&decide (ws.length<=4))&&ws.all zeV)=true then some (D.tup [.str k,.tup (ws.map zeL)]) else none) with | some r=>R.ok r | none=>R.ex (noT a):R D)
   by_cases h1:1<=ws.length
   case neg =>
    simp only [h1,ybE,ycw,ycv]
    rfl
   by_cases he:e = "="
   case neg =>
    rw [ix1,zac,zvQ]
    simp only [h1,he,ybE,ybY,ycw]
    rfl
   rw [ix1,zac,zvQ,yaj h1,yaj he,ya3,orF,zac,yaH (by decide),ix0,zac,show nInt (.int 2)=.ok 2 from rfl,zac,zhL,zac]
   have c:cutD (List.map D.str (k::e::ws)) (some 2) none=ws.map D.str:=cut2 _ _ _
   rw [c]
   show (R.bind (zbf (.lst (ws.map D.str))) _)=_
   rw [show zbf (.lst (ws.map D.str))=.ok (ws.map D.str) from rfl,zac]
   have em:lcMX (λd_1:D=>zcj d_1) (ws.map D.str)=if ws.all zeV=true then .ok (ws.map zeL) else .ex (noT 0):=(zaV (zdX ls)).trans (zoF λw h=>(hw w h).mono (by decide))
   rw [em]
   cases hb:ws.all zeV with
   | false =>
     rw [ycv,yaH yat,yaH yat]
     rfl
   | true =>
     rw [yci,yaM rfl]
     have sm:Sm 3 (.tup [.str k,.tup (ws.map zeL)]):=by
      refine ⟨by show 2<=1000; decide,λd hd => ?_⟩
      rcases yao.mp hd with rfl | hd
      ·exact (hk.sm (by decide)).mono (by decide)
      ·rw [yar.mp hd]
       refine ⟨by rw [yac]; exact lw,λd hd => ?_⟩
       obtain ⟨w,hw',rfl⟩:=yal.mp hd
       refine ⟨by show 2<=1000; decide,λd hd => ?_⟩
       rcases yao.mp hd with rfl | hd
       ·exact (hw w hw').na.sm (by decide)
       ·rw [yar.mp hd]
        exact (hw w hw').sd.sm (by decide)
     have ir:zgF (.tup [.str k,.tup (ws.map zeL)])=(zaK k&&(decide (1<=ws.length)&&decide (ws.length<=4))):=by
      show (zaK k&&(decide (1<=(ws.map zeL).length)&&decide ((ws.map zeL).length<=4)&&(ws.map zeL).all zia))=_
      rw [yac,yb4,show (zia∘zeL)=zeV from funext ztu,hb,yci]
     rw [show ∀ (f:List D->R D) (g:Xn->R D),R.tryC (R.ok (ws.map zeL)) f g=f (ws.map zeL) from λ_ _=>rfl]
     rw [show zcC (.lst (ws.map zeL))=.ok (.tup (ws.map zeL)) from rfl,zac,zg9 sm,zac,ir,yaj h1,yaR,yaR]
     cases (zaK k&&decide (ws.length<=4))<;>rfl
theorem zmG {T:Str} {r:D} (h:rowW T=some r):GRow r:=by
 unfold rowW rowOf at h
 split at h
 ·rename_i k e ws _
  split at h
  ·rename_i c
   cases h
   simp only [yap,yak] at c
   obtain ⟨⟨⟨c1,c2⟩,c3,c4⟩,c5⟩:=c
   refine ⟨k,ws.map zeL,rfl,c2,by rw [yac]; exact c3,by rw [yac]; exact c4,λp hp => ?_⟩
   obtain ⟨w,hw,rfl⟩:=yal.mp hp
   have:=yam.mp c5 w hw
   unfold zeV at this
   rw [yap] at this
   refine ⟨naW w,sdW w,rfl,this.2,?_⟩
   have z:(decide (sdW w = "+")||decide (sdW w = "-"))=true:=this.1
   rw [yaZ,yak,yak] at z
   exact z
  ·cases h
 ·cases h
def fb:Nat->List (Option D)->Option Nat
 | _,[]=>none
 | a,none::_=>some a
 | a,some _::r=>fb (a+1) r
theorem zoG:∀ {Ts:List Str} (a:Nat),(∀ T∈Ts,TxS 900 T)->zl3 (λd_1:D=>R.bind (nUn2 d_1) λp_1=>zbX p_1.2 p_1.1) (enF a (Ts.map D.str))=(match fb a (Ts.map rowW) with | some k=>.ex (noT k) | none=>.ok (Ts.map λT=>nonO (rowW T)))
 | [],_,_=>rfl
 | T::Ts,a,h=>by
   rw [yau,yau,yau]
   unfold enF zl3
   have e:(R.bind (nUn2 (.tup [.int (a:Nat),.str T])) λp_1=>zbX p_1.2 p_1.1)=zbX (.str T) (.int (a:Nat)):=rfl
   rw [e,znC (h T yaa),zoG (a+1) λT hT=>h T (yab _ hT)]
   cases rowW T with
   | none=>rfl
   | some r =>
     show (R.bind (R.ok r) _)=(match fb (a+1) (Ts.map rowW) with | some k=>_ | none=>_)
     rw [zac]
     cases fb (a+1) (Ts.map rowW)<;>rfl
def fd:List Str->List Str->Option Str
 | _,[]=>none
 | seen,x::r=>if x∈seen then some x else fd (seen++[x]) r
theorem zoH:∀ {rows:List D} {seen:List Str} {kvs:List (Key×D)},(∀ r∈rows,GRow r)->kvs.map (·.1)=seen.map Sum.inr->kvs.length+rows.length<1000->(match fd seen (rows.map zaE) with | some s=>R.forS zbK rows kvs=.ex (twX s) | none=>∃ kvs',R.forS zbK rows kvs=.ok kvs')
 | [],_,kvs,_,_,_=>⟨kvs,rfl⟩
 | r::rows,seen,kvs,g,hk,hl=>by
   obtain ⟨n,ps,rfl,_⟩:=g r yaa
   have b:zbK (.tup [.str n,.tup ps]) kvs=if n∈seen then .ex (twX n) else .ok (setK kvs (.inr n) (.bl true)):=by
    unfold zbK
    rw [show nUn2 (.tup [.str n,.tup ps])=.ok (.str n,.tup ps) from rfl,zac]
    show (R.bind (R.ok (xorB false (getK kvs (.inr n)).isSome)) _)=_
    have m0:(getK kvs (Sum.inr n)).isSome=decide (n∈seen):=by
     rw [zi0,hk]
     refine yaW.mpr ?_
     constructor
     ·intro h
      obtain ⟨x,hx,e⟩:=yal.mp h
      cases e
      exact hx
     ·exact λh=>yal.mpr ⟨n,h,rfl⟩
    rw [zac,m0]
    by_cases z:n∈seen
    ·rw [yaM z,yaj z]
     rfl
    ·rw [yaH z,yaN z]
     show (R.bind (nStK kvs (.str n) (.bl true)) _)=_
     unfold nStK
     show (R.bind (need (decide (kvs.length<16777216)) _) _)=_
     rw [zaV (yaj (by omega)),zac]
   rw [zrn,b,yau]
   show (match fd seen (n::rows.map zaE) with | some s=>_ | none=>_)
   unfold fd
   by_cases z:n∈seen
   ·rw [yaM z,yaM z]
    rfl
   ·rw [yaH z,yaH z,zac]
    have nk:(Sum.inr n:Key)∉kvs.map (·.1):=λy=>by
     rw [hk] at y
     obtain ⟨x,hx,e⟩:=yal.mp y
     cases e
     exact z hx
    rw [zsH nk]
    refine zoH (λr hr=>g r (yab _ hr)) (by rw [yba,hk,yba]; rfl) ?_
    rw [yax]
    simp only [yaq,ya2] at hl ⊢
    omega
theorem znD:∀ {os:List (Option D)} {a:Nat},fb a os=none->∀ o∈os,o.isSome=true
 | [],_,_=>λ_ z=>nomatch z
 | none::_,_,h=>nomatch h
 | some d::os,a,h=>λo ho=>by
   rcases yao.mp ho with rfl | ho
   ·rfl
   ·exact znD (os:=os) h o ho
theorem zly:∀ {r seen:List Str},seen.Nodup->fd seen r=none->(seen++r).Nodup
 | [],seen,nd,_=>by rw [yaE]; exact nd
 | x::r,seen,nd,h=>by
   unfold fd at h
   split at h
   ·cases h
   ·rename_i z
    have:=zly (r:=r) (seen:=seen++[x]) (by
     rw [ybc]
     refine ⟨nd,by simp,λa ha b hb => ?_⟩
     rw [yar.mp hb]
     exact λe=>z (e▸ha)) h
    rw [yah] at this
    exact this
def zb6 (Ts:List Str):List D:=Ts.map λT=>nonO (rowW T)
inductive Due6 where
 | bad (k:Nat)
 | twice (s:Str)
 | many
 | tells (d:D)
def dueX (Ts:List Str):Due6:=match fb 0 (Ts.map rowW) with
 | some k=>.bad k
 | none=>match fd [] ((zb6 Ts).map zaE) with
   | some s=>.twice s
   | none=>if (decide (1<=Ts.length)&&decide (Ts.length<=8))=true then .tells (.tup (zdt (zb6 Ts))) else .many
theorem zhO {Ts:List Str} (h:fb 0 (Ts.map rowW)=none):∀ r∈zb6 Ts,GRow r:=λr hr=>by
 obtain ⟨T,hT,rfl⟩:=yal.mp hr
 have:=znD h (rowW T) (yal.mpr ⟨T,hT,rfl⟩)
 obtain ⟨d,e⟩:=ybM.mp this
 show GRow (nonO (rowW T))
 rw [e]
 exact zmG e
theorem zjM {R0:List D} (g:∀ r∈R0,GRow r):zcs (.lst R0)=.ok (zdt R0):=by
 obtain ⟨ps,ep,hps⟩:=zlo g
 show (R.bind (ofO (D.pys R0)) λps=>need (zet ps) (.ok (zdt R0)))=_
 rw [ep]
 show need (zet ps) _=_
 rw [zri hps]
 rfl
theorem zmH {Ts:List Str} (hl:Ts.length<=100) (h:∀ T∈Ts,TxS 900 T):zdN (.lst (Ts.map D.str))=match dueX Ts with
 | .bad k=>.ex (noT k)
 | .twice s=>.ex (twX s)
 | .many=>.ex ⟨"NoStock",none⟩
 | .tells d=>.ok d:=by
 have em:lcMX (λd_1:D=>R.bind (nUn2 d_1) λp_1=>zbX p_1.2 p_1.1) (enF 0 (Ts.map D.str))=match fb 0 (Ts.map rowW) with
  | some k=>.ex (noT k)
  | none=>.ok (zb6 Ts):=(zaV (zdX (by rw [zru,yac,zcn]; omega))).trans (zoG 0 h)
 unfold zdN
 rw [zv9,zac,em]
 unfold dueX
 cases hb:fb 0 (Ts.map rowW) with
 | some k=>rfl
 | none =>
   have g:=zhO hb
   have len:(zb6 Ts).length=Ts.length:=yac ..
   show (R.bind (R.ok (zb6 Ts)) _)=_
   rw [zac]
   have kn:=zoH (rows:=zb6 Ts) (seen:=[]) (kvs:=[]) g rfl (by rw [len]; show 0+Ts.length<1000; omega)
   cases hd:fd [] ((zb6 Ts).map zaE) with
   | some s =>
     rw [hd] at kn
     have kn:R.forS zbK (zb6 Ts) []=.ex (twX s):=kn
     rw [kn]
     rfl
   | none =>
     rw [hd] at kn
     obtain ⟨kvs',kn⟩:=kn
     rw [kn,zac,zjM g,zac,show zcC (.lst (zdt (zb6 Ts)))=.ok (.tup (zdt (zb6 Ts))) from rfl,zac]
     have pm:=ybp (zb6 Ts) leD
     have sl:(zdt (zb6 Ts)).length=Ts.length:=by rw [← len]; exact pm.length_eq
     have nd:((zb6 Ts).map zaE).Nodup:=zly (seen:=[]) ybr hd
     have sm:Sm 4 (.tup (zdt (zb6 Ts))):=⟨by rw [sl]; omega,λr hr=>znv (g r (pm.mem_iff.mp hr))⟩
     rw [zpp sm,zac]
     have is:zrd (.tup (zdt (zb6 Ts)))=(decide (1<=Ts.length)&&decide (Ts.length<=8)):=by
      show (decide (1<=(zdt (zb6 Ts)).length)&&decide ((zdt (zb6 Ts)).length<=8)&&zg8 "" (zdt (zb6 Ts)))=_
      rw [sl,zku g nd,yci]
     rw [is]
     cases (decide (1<=Ts.length)&&decide (Ts.length<=8))<;>rfl
theorem zmI {p:Nat->Bool} {n k:Nat} (hk:k<n) (pk:p k=true) (hj:∀ j,j<k->p j=false):∃ F,(List.range n).filter p=k::F:=by
 obtain ⟨m,rfl⟩:∃ m,n=k+(m+1):=⟨n-k-1,by omega⟩
 rw [List.range_add,List.filter_append,List.range_succ_eq_map,yau,Nat.add_zero,List.filter_cons_of_pos pk]
 have e:(List.range k).filter p=[]:=ybS.mpr λj hj'=>by
  rw [hj j (yav.mp hj')]
  exact yat
 rw [e]
 exact ⟨_,rfl⟩
theorem zrP:∀ {os:List (Option D)} {a k:Nat},fb a os=some k->∃ j,k=a+j/\os[j]?=some none/\∀ i,i<j->∃ d,os[i]?=some (some d)
 | none::os,a,k,h=>⟨0,by cases h; rfl,rfl,λi hi=>by omega⟩
 | some d::os,a,k,h=>by
   obtain ⟨j,e,h1,h2⟩:=zrP (os:=os) (a:=a+1) h
   refine ⟨j+1,by omega,h1,λi hi => ?_⟩
   cases i with
   | zero=>exact ⟨d,rfl⟩
   | succ i=>exact h2 i (by omega)
theorem znE:∀ {r seen:List Str} {s:Str},fd seen r=some s->∃ j,r[j]?=some s/\s∈seen++r.take j/\∀ i,i<j->∀ x,r[i]?=some x->x∉seen++r.take i
 | x::r,seen,s,h=>by
   unfold fd at h
   split at h
   ·rename_i z
    cases h
    exact ⟨0,rfl,by simpa using z,λi hi=>by omega⟩
   ·rename_i z
    obtain ⟨j,h1,h2,h3⟩:=znE (r:=r) h
    refine ⟨j+1,h1,by rw [List.take_succ_cons]; simpa using h2,λi hi y hy => ?_⟩
    cases i with
    | zero =>
      have:x=y:=yaQ hy
      rw [← this]
      simpa using z
    | succ i =>
      have:=h3 i (by omega) y hy
      rw [List.take_succ_cons]
      simpa using this
theorem zpv {l:List Str} (nd:l.Nodup) {k:Nat} {x:Str} (h:l[k]?=some x):x∉l.take k:=λhx=>by
 obtain ⟨hk,rfl⟩:=yaf.mp h
 obtain ⟨j,hj,e⟩:=List.mem_iff_getElem.mp hx
 rw [List.getElem_take] at e
 have hj':j<k:=by rw [ybA] at hj; omega
 exact absurd ((List.getElem_inj nd).mp e) (by omega)
theorem zwv {α:Type} (l:List α) {k:Nat} (h:k<=l.length):cutD l none (some (k:Int))=l.take k:=by
 unfold cutD HT.sIx
 dsimp only
 rw [yaH (by omega),ycu,yb3]
 congr 1
 omega
theorem ztv (neg:Bool) (s:Str) (l:List Str):nIn neg (.str s) (.lst (l.map D.str))=.ok (xorB neg (decide (s∈l))):=by
 show nInS neg (.str s) _=_
 unfold nInS
 rw [zid]
 show R.ok (xorB neg (L2.inV (V.str s) _))=_
 rw [zte]
theorem zf5 {l:List Nat} (h:l.length<=1000):nEq true (.lst (l.map nD)) (.lst ([]:List D))=.ok (!l.isEmpty):=by
 have sm:Sm 1 (.lst (l.map nD)):=⟨by rw [yac]; exact h,λd hd=>by
  obtain ⟨k,_,rfl⟩:=yal.mp hd
  trivial⟩
 rw [zny (sm.can (by decide))]
 cases l<;>rfl
def dueD:Due6->D
 | .bad k=>.tup [.non,.int 0,.int (k:Nat)]
 | .twice s=>.tup [.non,.int 1,.str s]
 | .many=>.tup [.non,.int 2,.non]
 | .tells d=>.tup [d,.non,.non]
theorem ztw {o:Option D} (h:∀ d,o=some d->GRow d):nIs false (nonO o) .non=.ok o.isNone:=by
 cases o with
 | none=>rfl
 | some d =>
   obtain ⟨n,ps,rfl,_⟩:=h d rfl
   rfl
theorem ztx {Ts:List Str} (hl:Ts.length<=100) (h:∀ T∈Ts,TxS 900 T):zcm (.lst (Ts.map D.str))=.ok (dueD (dueX Ts)):=by
 have len:(zb6 Ts).length=Ts.length:=yac ..
 have e1:lcM (λd_1:D=>zeS d_1) (Ts.map D.str)=.ok (zb6 Ts):=by
  rw [zeJ (g:=λd=>match d with
   | .str T=>nonO (rowW T)
   | _=>.non) (by rw [yac,zcn]; omega) λd hd=>by
     obtain ⟨T,hT,rfl⟩:=yal.mp hd
     exact zrO (h T hT),yaK]
  rfl
 have r1:nR1 (.int ((Ts.length:Nat):Int))=.ok ((List.range Ts.length).map nD):=by
  rw [zms (by omega) (by omega),zmt]
  rfl
 have at1:∀ {k:Nat} {d:D},(zb6 Ts)[k]?=some d->nIx (.lst (zb6 Ts)) (nD k)=.ok d:=λe=>zfT (atI_nat e)
 have e2:lcF (λd_2:D=>R.bind (nIx (.lst (zb6 Ts)) d_2) λt_3=>R.bind (nIs false t_3 (.non)) λt_4=>if t_4=true then (.ok ((some d_2)):R (Option D)) else .ok none) ((List.range Ts.length).map nD) =
  .ok (((List.range Ts.length).filter λk=>match (Ts.map rowW)[k]? with
   | some none=>true
   | _=>false).map nD):=zky _ (by rw [yaI]; omega) λk hk=>by
  have hk:=yav.mp hk
  have e:(zb6 Ts)[k]?=some (nonO (rowW Ts[k])):=by
   unfold zb6
   rw [yaA,yad hk]
   rfl
  have e':(Ts.map rowW)[k]?=some (rowW Ts[k]):=by rw [yaA,yad hk]; rfl
  rw [at1 e,zac,ztw (λd hd=>zmG hd),zac,e']
  cases rowW Ts[k]<;>rfl
 have fl:∀ p:Nat->Bool,((List.range Ts.length).filter p).length<=1000:=λp=>by
  have:=List.length_filter_le p (List.range Ts.length)
  rw [yaI] at this
  omega
 have fl1:=fl λk=>match (Ts.map rowW)[k]? with
  | some none=>true
  | _=>false
 unfold zcm
 rw [show zbf (.lst (Ts.map D.str))=.ok (Ts.map D.str) from rfl,zac,e1,zac,zeB,zac,len,r1,zac,e2,zac]
 unfold dueX
 cases hb:fb 0 (Ts.map rowW) with
 | some k =>
   obtain ⟨j,e,h1,h2⟩:=zrP hb
   rw [ybx] at e
   subst e
   obtain ⟨F,eF⟩:=zmI (p:=λk=>match (Ts.map rowW)[k]? with
    | some none=>true
    | _=>false) (n:=Ts.length) (k:=k) (by have:=(yaf.mp h1).1; rwa [yac] at this) (by rw [h1]) λi hi=>by
      obtain ⟨d,e⟩:=h2 i hi
      rw [e]
   rw [zf5 fl1,eF,zac]
   show (R.bind (nIx (.lst (nD k::F.map nD)) (.int 0)) _)=_
   rw [zh8,zac]
   rfl
 | none =>
   have g:=zhO hb
   have eF:((List.range Ts.length).filter λk=>match (Ts.map rowW)[k]? with
    | some none=>true
    | _=>false)=[]:=ybS.mpr λk hk=>by
    have hk:=yav.mp hk
    have e':(Ts.map rowW)[k]?=some (rowW Ts[k]):=by rw [yaA,yad hk]; rfl
    rw [e']
    have:=znD hb (rowW Ts[k]) (yal.mpr ⟨Ts[k],ybV _,rfl⟩)
    obtain ⟨d,e⟩:=ybM.mp this
    rw [e]
    exact yat
   have fl2:=λns:List Str=>fl λk=>decide (ns.getD k "" ∈ ns.take k)
   obtain ⟨ns,ens⟩:∃ ns,ns=(zb6 Ts).map zaE:=⟨_,rfl⟩
   have ln:ns.length=Ts.length:=by rw [ens,yac,len]
   have e3:lcM (λd_3:D=>nIx d_3 (.int 0)) (zb6 Ts)=.ok (ns.map D.str):=by
    rw [zeJ (g:=λd=>.str (zaE d)) (by rw [len,zcn]; omega) λd hd=>by
     obtain ⟨n,ps,rfl,_⟩:=g d hd
     rfl,ens,yaK]
    rfl
   have e4:lcF (λd_4:D=>R.bind (nIx (.lst (ns.map D.str)) d_4) λt_9=>R.bind (nInt d_4) λi_1=>R.bind (nSl (.lst (ns.map D.str)) none (some i_1)) λt_10=>R.bind (nIn false t_9 t_10.d) λt_11=>if t_11=true then (.ok ((some d_4)):R (Option D)) else .ok none) ((List.range Ts.length).map nD) =
    .ok (((List.range Ts.length).filter λk=>decide (ns.getD k "" ∈ ns.take k)).map nD):=zky _ (by rw [yaI]; omega) λk hk=>by
    have hk:=yav.mp hk
    have ek:ns[k]?=some ns[k]:=yad (by omega)
    have e:(ns.map D.str)[k]?=some (.str ns[k]):=by rw [yaA,ek]; rfl
    have ed:ns.getD k "" = ns[k]:=by rw [yay,ek]; rfl
    have ix:nIx (.lst (ns.map D.str)) (nD k)=.ok (.str ns[k]):=zfT (atI_nat e)
    rw [ix,zac,show nInt (nD k)=.ok ((k:Nat):Int) from rfl,zac,zhL,zac]
    show (R.bind (nIn false (.str ns[k]) (.lst (cutD (ns.map D.str) none (some ((k:Nat):Int))))) _)=_
    rw [zwv _ (by rw [yac]; omega),← List.map_take,ztv,zac,ed]
    cases decide (ns[k]∈ns.take k)<;>rfl
   rw [zf5 fl1,eF,zac]
   show (R.bind (lcM (λd_3:D=>nIx d_3 (.int 0)) (zb6 Ts)) _)=_
   rw [e3,zac,zac,r1,zac,e4,zac]
   show _=R.ok (dueD (match fd [] ((zb6 Ts).map zaE) with
    | some s=>.twice s
    | none=>_))
   rw [← ens]
   cases hd:fd [] ns with
   | some s =>
     obtain ⟨k,h1,h2,h3⟩:=znE hd
     have hk:k<ns.length:=(yaf.mp h1).1
     obtain ⟨F,eF2⟩:=zmI (p:=λk=>decide (ns.getD k "" ∈ ns.take k)) (n:=Ts.length) (k:=k) (by omega) (by
      rw [yay,h1]
      exact yaj h2) λi hi=>by
       have ei:ns[i]?=some ns[i]:=yad (by omega)
       rw [yay,ei]
       exact yaN (h3 i hi _ ei)
     rw [zf5 (fl2 ns),eF2,zac]
     show (R.bind (nIx (.lst (nD k::F.map nD)) (.int 0)) _)=_
     have ix:nIx (.lst (ns.map D.str)) (nD k)=.ok (.str s):=zfT (atI_nat (by rw [yaA,h1]; rfl))
     rw [zh8,zac,ix,zac]
     rfl
   | none =>
     have nd:ns.Nodup:=zly (seen:=[]) ybr hd
     have eF2:((List.range Ts.length).filter λk=>decide (ns.getD k "" ∈ ns.take k))=[]:=ybS.mpr λk hk=>by
      have hk:=yav.mp hk
      have ei:ns[k]?=some ns[k]:=yad (by omega)
      rw [yay,ei,Option.getD_some,yaN (zpv nd ei)]
      exact yat
     rw [zf5 (fl2 ns),eF2,zac]
     rw [yaH (by decide),zac,zdV,zac,zdV,zhr,zac]
     simp only [zpe]
     rw [d18]
     cases (decide (1<=Ts.length)&&decide (Ts.length<=8)) with
     | false=>rfl
     | true =>
       show (R.bind (zcs (.lst (zb6 Ts))) _)=_
       rw [zjM g,zac]
       rfl
def sumW (ws:List Str):Nat:=(ws.map λw=>w.length+1).sum
def WLs (S:Nat) (ws:List Str):Prop:=sumW ws<=S/\∀ w∈ws,∀ c∈TL.tl w,c<128
theorem WLs.mono {S S':Nat} {ws:List Str} (h:WLs S ws) (k:S<=S'):WLs S' ws:=⟨ya5 h.1 k,h.2⟩
theorem zty (a b:List Str):sumW (a++b)=sumW a+sumW b:=by
 unfold sumW
 rw [yba,List.sum_append]
theorem WLs.app {S S':Nat} {a b:List Str} (h:WLs S a) (k:WLs S' b):WLs (S+S') (a++b):=⟨by rw [zty]; exact ycx h.1 k.1,λw hw=>(yas.mp hw).elim (h.2 w) (k.2 w)⟩
theorem WLs.one {n:Nat} {w:Str} (h:TxS n w):WLs (n+1) [w]:=⟨by show w.length+1+0<=_; have:=h.1; omega,λx hx=>by rw [yar.mp hx]; exact h.2⟩
theorem ztz {a b:List Str} (h:a.Sublist b):sumW a<=sumW b:=by
 induction h with
 | slnil=>exact yaw _
 | cons x _ ih=>unfold sumW at ih ⊢; rw [yau,yby]; omega
 | cons_cons x _ ih=>unfold sumW at ih ⊢; rw [yau,yau,yby,yby]; omega
theorem WLs.sub {S:Nat} {a b:List Str} (h:WLs S b) (s:a.Sublist b):WLs S a:=⟨ya5 (ztz s) h.1,λw hw=>h.2 w (s.subset hw)⟩
theorem znF {α:Type} (l:List α) (lo hi:Option Int):(cutD l lo hi).Sublist l:=(List.take_sublist _ _).trans (List.drop_sublist _ _)
theorem zmJ (l:List Str) (lo hi:Option Int):cutD (l.map D.str) lo hi=(cutD l lo hi).map D.str:=by
 unfold cutD
 rw [yac,List.map_take,List.map_drop]
theorem WLs.len {S:Nat} {ws:List Str} (h:WLs S ws):ws.length<=S:=by
 have:∀ l:List Str,l.length<=sumW l:=λl=>by
  induction l with
  | nil=>exact yaw _
  | cons x l ih=>unfold sumW at ih ⊢; rw [yau,yby,yaq]; omega
 exact ya5 (this ws) h.1
theorem znG {x:Nat}:∀ (l acc:List Nat),((TL.spl [x] 0 acc l).map λp=>p.length+1).sum=acc.length+l.length+1
 | [],acc=>by
   rw [TL.spl_nil]
   rfl
 | c::r,acc=>by
   cases h:TL.pre [x] (c::r) with
   | true =>
     rw [TL.spl_hit h,yau,yby]
     have:=znG r (x:=x) []
     have e:([x]:List Nat).length-1=0:=rfl
     rw [e,this]
     simp only [ya2,yaq]
     omega
   | false =>
     rw [TL.spl_miss h,znG r (acc++[c])]
     simp only [yax,yaq,ya2]
     omega
theorem WLs.words {n:Nat} {T:Str} (h:TxS n T):WLs (n+1) (zbu T):=by
 have e:(zbu T).map TL.tl=TL.spl [32] 0 [] (TL.tl T):=by
  have:=TL.split_spl T " " (by decide +kernel) (TL.kind_ok (by decide +kernel))
  rw [show TL.tl (" " : Str)=[32] by decide +kernel] at this
  exact this
 have s:=znG (x:=32) (TL.tl T) []
 rw [← e,yaK] at s
 refine ⟨?_,λw hw=>((zhc h).2.2 w hw).2⟩
 have e2:sumW (zbu T)=(TL.tl T).length+1:=by
  unfold sumW
  have:((λp:List Nat=>p.length+1)∘TL.tl)=λw:Str=>w.length+1:=by
   funext w
   show (TL.tl w).length+1=_
   rw [ybb]
  rw [this] at s
  rw [s]
  simp
 rw [e2,← ybb]
 have:=h.1
 omega
theorem zmK:∀ ps:List (List Nat),(TL.joinL [32] ps).length<=(ps.map λp=>p.length+1).sum
 | []=>ya4 _
 | [p]=>by
   show p.length<=p.length+1+0
   omega
 | p::q::r=>by
   have:=zmK (q::r)
   show (p++([32]++TL.joinL [32] (q::r))).length<=p.length+1+((q::r).map λp=>p.length+1).sum
   rw [yax,yax]
   simp only [yaq,ya2] at this ⊢
   omega
theorem WLs.join {S:Nat} {ws:List Str} (h:WLs S ws):TxS S (Txt.join " " ws):=by
 constructor
 ·rw [ybb,ziF,show TL.tl (" " : Str)=[32] by decide +kernel]
  have:=zmK (ws.map TL.tl)
  rw [yaK,show ((λp:List Nat=>p.length+1)∘TL.tl)=λw:Str=>w.length+1 from funext λw=>by
   show (TL.tl w).length+1=_
   rw [ybb]] at this
  exact ya5 this h.1
 ·intro c hc
  rcases zoE hc with z | ⟨t,ht,z⟩
  ·rw [show TL.tl (" " : Str)=[32] by decide +kernel] at z
   rw [yar.mp z]
   decide
  ·exact h.2 t ht c z
theorem WLs.joinN {S:Nat} {ws:List Str} (h:WLs S ws) (k:S<=4000):zhp (.str " ") (.lst (ws.map D.str))=.ok (.str (Txt.join " " ws)):=by
 refine zov ?_
 have s1:(ws.map (·.length)).sum<=sumW ws:=by
  unfold sumW
  clear h
  induction ws with
  | nil=>exact yaw _
  | cons x l ih=>simp only [yau,yby]; omega
 have l:=h.len
 have l2:=h.1
 have:ws.length*(" " : Str).length<=4000:=by
  rw [show (" " : Str).length=1 from rfl]
  omega
 omega
theorem TxS.app {n m:Nat} {a b:Str} (h:TxS n a) (k:TxS m b):TxS (n+m) (a++b):=⟨by rw [znA]; exact ycx h.1 k.1,λc hc=>by
 rw [TL.tl_append] at hc
 exact (yas.mp hc).elim (h.2 c) (k.2 c)⟩
theorem TxS.cut {n:Nat} {s:Str} (h:TxS n s) (lo hi:Option Int):TxS n (cutS s lo hi):=by
 have e:TL.tl (cutS s lo hi)=((TL.tl s).drop (HT.sIx s.length 0 lo)).take (HT.sIx s.length s.length hi-HT.sIx s.length 0 lo):=rfl
 constructor
 ·rw [ybb,e]
  have:=h.1
  rw [ybb] at this
  rw [ybA,ybJ]
  omega
 ·intro c hc
  rw [e] at hc
  exact h.2 c (ybI (ybl hc))
theorem TxS.of {n:Nat} {s:Str} (h:s.length<=n) (k:(TL.tl s).all (λc=>decide (c<128))=true):TxS n s:=⟨h,λc hc=>yai (yam.mp k c hc)⟩
theorem TxS.sgn {n c:Nat} {s:Str} (h:TxS n s) (hc:c∈s.cps.toList):TxS 1 ⟨#[c]⟩:=⟨yaw _,λx hx=>by
 have:x∈[c]:=hx
 rw [yar.mp this]
 exact h.2 c hc⟩
theorem TxS.sz {n:Nat} {s:Str} (h:TxS n s) (k:n<=4000):s.length<=sizeLine:=by rw [zcn]; have:=h.1; omega
theorem addT {n m:Nat} {a b:Str} (h:TxS n a) (k:TxS m b) (l:n+m<=4000):nAdd (.str a) (.str b)=.ok (.fz (.str (a++b))):=zjy (by rw [zcn]; have:=h.1; have:=k.1; omega)
theorem zww {S S':Nat} {a b:List Str} (h:WLs S a) (k:WLs S' b) (l:S+S'<=4000):zcf (.lst (a.map D.str)) (.lst (b.map D.str))=.ok ((a++b).map D.str):=by
 show need (Nat.ble ((a.map D.str).length+(b.map D.str).length) sizeLine) _=_
 have:=h.len
 have:=k.len
 rw [zaV (zdX (by rw [yac,yac,zcn]; omega)),yba]
def oddW:List Str:=["", "=", "+n", "-net", "n", "+", "+N", "++n", "*n", "add", "abcdefghi", "+abcdefghi"]
theorem zwx:∀ w∈oddW,TxS 10 w:=λw hw=>by
 have:=yam.mp (show oddW.all (λw=>decide (w.length<=10)&&(TL.tl w).all λc=>decide (c<128))=true by decide +kernel) w hw
 rw [yap,yak] at this
 exact .of this.1 this.2
theorem zjN (h:Int) {T:Str} (hT:TxS 100 T):∃ T' h',zbw [.int h] (.str T)=.ok (.str T',[.int h'])/\TxS 300 T':=by
 have hO:TxS 10 (" =+-0nzA_" : Str):=.of (by decide +kernel) (by decide +kernel)
 have e1:=addT hO hT (by decide)
 have hOT:=hO.app hT
 have l2:=zg6 (hOT.sz (by decide))
 have pos:0<((" =+-0nzA_" : Str)++T).length:=by rw [znA]; exact yb2 (by decide +kernel:0<(" =+-0nzA_" : Str).length) (Nat.le_add_right _ _)
 obtain ⟨i,h1,e3,i0,i1⟩:=zbR h (m:=((((" =+-0nzA_" : Str)++T).length:Nat):Int)) (by omega) (by have:=hOT.1; omega)
 obtain ⟨c,hc,e4'⟩:=zfY (xs:=((" =+-0nzA_" : Str)++T).cps.toList) i0 (by rw [yaU]; exact i1)
 have e4:=zhM e4' (hOT.sz (by decide))
 have hs:TxS 1 (⟨#[c]⟩:Str):=hOT.sgn (yaP hc)
 have l5:=zg6 (hT.sz (by decide))
 have tl:=hT.1
 obtain ⟨j,h2,e7,j0,j1⟩:=zbR h1 (m:=(((T.length:Nat):Int)+1)) (by omega) (by omega)
 have hw:=WLs.words hT
 have wne:=(zhc hT).1
 have wl:=hw.len
 have e8:zgb (.str T) (.str " ")=.ok ((zbu T).map D.str):=zlx (hT.mono (by decide))
 have wpos:0<(zbu T).length:=List.length_pos_iff.mpr wne
 obtain ⟨q,h3,e10,q0,q1⟩:=zbR h2 (m:=(((zbu T).length:Nat):Int)) (by omega) (by omega)
 obtain ⟨v,h4,e11,v0,v1⟩:=zbR h3 (m:=12) (by decide) (by decide)
 obtain ⟨x,hx,e12⟩:=zpq (xs:=oddW.map D.str) v0 (by rw [yac]; exact v1)
 obtain ⟨w,hw12,rfl⟩:=yal.mp hx
 have hW:=zwx w hw12
 have e12:nIx (.lst [.str "",.str "=",.str "+n",.str "-net",.str "n",.str "+",.str "+N",.str "++n",.str "*n",.str "add",.str "abcdefghi",.str "+abcdefghi"]) (.int v)=.ok (.str w):=e12
 have sT:∀ lo hi,nSl (.str T) lo hi=.ok (.fz (.str (cutS T lo hi))):=λlo hi=>zeI (hT.sz (by decide))
 have hcut:∀ lo hi,TxS 100 (cutS T lo hi):=λlo hi=>hT.cut lo hi
 have sW:∀ lo hi,nSl (.lst ((zbu T).map D.str)) lo hi=.ok (.lst ((cutD (zbu T) lo hi).map D.str)):=λlo hi=>by rw [zhL,zmJ]
 have wcut:∀ lo hi,WLs 101 (cutD (zbu T) lo hi):=λlo hi=>hw.sub (znF _ _ _)
 have ni:∀ k:Int,nInt (.int k)=.ok k:=λ_=>rfl
 have wone:WLs 11 [w]:=WLs.one hW
 have e14:=addT (hcut none (some j)) hs (by decide)
 have e16:=addT ((hcut none (some j)).app hs) (hcut (some j) none) (by decide)
 have e20:=addT (hcut none (some j)) (hcut (some (j+1)) none) (by decide)
 have e22:=addT (hcut none (some j)) hs (by decide)
 have e25:=addT ((hcut none (some j)).app hs) (hcut (some (j+1)) none) (by decide)
 have e28:zcf (.lst ((cutD (zbu T) none (some q)).map D.str)) (.lst [.str w])=_:=zww (wcut none (some q)) wone (by decide)
 have e31:=zww ((wcut none (some q)).app wone) (wcut (some (q+1)) none) (by decide)
 have w31:=((wcut none (some q)).app wone).app (wcut (some (q+1)) none)
 have e32:=w31.joinN (by decide)
 have w36:=(wcut none (some q)).app (wcut (some (q+1)) none)
 have e36:nAdd (.lst ((cutD (zbu T) none (some q)).map D.str)) (.lst ((cutD (zbu T) (some (q+1)) none).map D.str))=.ok (.lst ((cutD (zbu T) none (some q)++cutD (zbu T) (some (q+1)) none).map D.str)):=by
  have a:=(wcut none (some q)).len
  have b:=(wcut (some (q+1)) none).len
  rw [zq7 (by rw [yac,yac,zcn]; omega),yba]
 have e37:=w36.joinN (by decide)
 have w42:=((wcut none (some q)).app wone).app (wcut (some q) none)
 have e42:=zww ((wcut none (some q)).app wone) (wcut (some q) none) (by decide)
 have e43:=w42.joinN (by decide)
 have e45:=(wcut none (some 2)).joinN (by decide)
 have h46:TxS 12 (" +n -n +n -n" : Str):=.of (by decide +kernel) (by decide +kernel)
 have e46:=addT hT h46 (by decide)
 have h48:TxS 4 (" +nn" : Str):=.of (by decide +kernel) (by decide +kernel)
 have e48:=addT hT h48 (by decide)
 obtain ⟨u,h5,e50,u0,u1⟩:=zbR h4 (m:=11) (by decide) (by decide)
 obtain ⟨L,eL⟩:∃ L:List Str,L=[cutS T none (some j)++⟨#[c]⟩++cutS T (some j) none,cutS T none (some j)++cutS T (some (j+1)) none,cutS T none (some j)++⟨#[c]⟩++cutS T (some (j+1)) none,cutS T none (some j),
  Txt.join " " (cutD (zbu T) none (some q)++[w]++cutD (zbu T) (some (q+1)) none),Txt.join " " (cutD (zbu T) none (some q)++cutD (zbu T) (some (q+1)) none),
  Txt.join " " (cutD (zbu T) none (some q)++[w]++cutD (zbu T) (some q) none),Txt.join " " (cutD (zbu T) none (some 2)),T ++ " +n -n +n -n",T ++ " +nn", ""]:=⟨_,rfl⟩
 have hL:∀ s∈L,TxS 300 s:=by
  have f:∀ {n:Nat} {s:Str},TxS n s->n<=300->TxS 300 s:=λa b=>a.mono b
  intro s hs'
  rw [eL] at hs'
  simp only [yao,yaF,yb7] at hs'
  rcases hs' with rfl | rfl | rfl | rfl | rfl | rfl | rfl | rfl | rfl | rfl | rfl
  ·exact f (((hcut none (some j)).app hs).app (hcut (some j) none)) (by decide)
  ·exact f ((hcut none (some j)).app (hcut (some (j+1)) none)) (by decide)
  ·exact f (((hcut none (some j)).app hs).app (hcut (some (j+1)) none)) (by decide)
  ·exact f (hcut none (some j)) (by decide)
  ·exact f w31.join (by decide)
  ·exact f w36.join (by decide)
  ·exact f w42.join (by decide)
  ·exact f (wcut none (some 2)).join (by decide)
  ·exact f (hT.app h46) (by decide)
  ·exact f (hT.app h48) (by decide)
  ·exact .of (by decide +kernel) (by decide +kernel)
 obtain ⟨d,hd,e51⟩:=zpq (xs:=L.map D.str) u0 (by rw [yac,eL]; exact u1)
 obtain ⟨T',hT',rfl⟩:=yal.mp hd
 refine ⟨T',h5,?_,hL T' hT'⟩
 rw [eL] at e51
 simp only [yau,List.map_nil] at e51
 unfold zbw
 have ad:∀ {s t:List D},s.length+t.length<=1000->zcf (.lst s) (.lst t)=.ok (s++t):=ziE
 have a38:∀ a b c d e f:D,zcf (.lst [a,b,c,d]) (.lst [e,f])=.ok [a,b,c,d,e,f]:=λ_ _ _ _ _ _=>ad (by show 4+2<=1000; decide)
 have a47:∀ a b c d e f g h i:D,zcf (.lst [a,b,c,d,e,f]) (.lst [g,h,i])=.ok [a,b,c,d,e,f,g,h,i]:=λ_ _ _ _ _ _ _ _ _=>ad (by show 6+3<=1000; decide)
 have a49:∀ a b c d e f g h i j k:D,zcf (.lst [a,b,c,d,e,f,g,h,i]) (.lst [j,k])=.ok [a,b,c,d,e,f,g,h,i,j,k]:=λ_ _ _ _ _ _ _ _ _ _ _=>ad (by show 9+2<=1000; decide)
 have ml:∀ xs:List D,(M.lst xs).d=.lst xs:=λ_=>rfl
 rw [e1,zac,fz_d,l2,zac,e3,zac,e4,zac,l5,zac,zdA,zac,fz_d,e7,zac,show nTy "str" (.str T)=.ok () from rfl,zac,e8,zac,zeB,zac,yac,e10,zac,e11,zac,e12,zac]
 simp only [ni,sT,sW,zac,fz_d,ml,zdA,show sgn c=.str ⟨#[c]⟩ from rfl,e14,e16,e20,e25,e28,e31,e32,e36,e37,e42,e43,e45,e46,e48,a38,a47,a49,e50,e51]
theorem zrQ:∀ {Ts:List Str} (h:Int),(∀ T∈Ts,TxS 100 T)->∃ (Ts':List Str) (h':Int),lcS' (λ(d_3:D) (s:List D)=>R.bind (zbw s d_3) λt_44=>.ok ((t_44.1,t_44.2))) (Ts.map D.str) [.int h]=.ok (Ts'.map D.str,[.int h'])/\Ts'.length=Ts.length/\∀ T∈Ts',TxS 300 T
 | [],h,_=>⟨[],h,rfl,rfl,λ_ z=>nomatch z⟩
 | T::Ts,h,k=>by
   obtain ⟨T',h1,e1,t1⟩:=zjN h (k T yaa)
   obtain ⟨Ts',h2,e2,l2,t2⟩:=zrQ (Ts:=Ts) h1 λT hT=>k T (yab _ hT)
   refine ⟨T'::Ts',h2,?_,by rw [yaq,yaq,l2],λx hx => ?_⟩
   ·rw [yau]
    unfold lcS'
    rw [e1,zac]
    show (R.bind (lcS' (λ(d_3:D) (s:List D)=>R.bind (zbw s d_3) λt_44=>.ok ((t_44.1,t_44.2))) (Ts.map D.str) [D.int h1]) _)=_
    rw [e2]
    rfl
   ·rcases yao.mp hx with rfl | hx
    ·exact t1
    ·exact t2 x hx
def LT (k n:Nat) (Ts:List Str):Prop:=Ts.length<=k/\∀ T∈Ts,TxS n T
theorem LT.app {k k' n:Nat} {a b:List Str} (h:LT k n a) (g:LT k' n b):LT (k+k') n (a++b):=⟨by rw [yax]; exact ycx h.1 g.1,λT hT=>(yas.mp hT).elim (h.2 T) (g.2 T)⟩
theorem LT.mono {k k' n n':Nat} {a:List Str} (h:LT k n a) (g:k<=k') (f:n<=n'):LT k' n' a:=⟨ya5 h.1 g,λT hT=>(h.2 T hT).mono f⟩
theorem LT.cut {k n:Nat} {a:List Str} (h:LT k n a) (lo hi:Option Int):LT k n (cutD a lo hi):=⟨ya5 (znF a lo hi).length_le h.1,λT hT=>h.2 T ((znF a lo hi).subset hT)⟩
theorem LT.one {n:Nat} {T:Str} (h:TxS n T):LT 1 n [T]:=⟨yaw _,λx hx=>by rw [yar.mp hx]; exact h⟩
theorem LT.add {k k' n n':Nat} {a b:List Str} (h:LT k n a) (g:LT k' n' b) (l:k+k'<=1000):zcf (.lst (a.map D.str)) (.lst (b.map D.str))=.ok ((a++b).map D.str):=by
 have:=h.1
 have:=g.1
 rw [ziE (by rw [yac,yac]; omega),yba]
theorem zwy (h:Int) {Ts:List Str} (l1:1<=Ts.length) (hT:LT 4 100 Ts):∃ (m:M) (Ts':List Str) (h':Int),zcI [.int h] (.lst (Ts.map D.str))=.ok (m,[.int h'])/\m.d=.lst (Ts'.map D.str)/\LT 20 900 Ts':=by
 have l4:=hT.1
 have lenT:nLen (.lst (Ts.map D.str))=.ok (.int ((Ts.length:Nat):Int)):=by rw [zeB,yac]
 have ni:∀ k:Int,nInt (.int k)=.ok k:=λ_=>rfl
 have ml:∀ xs:List D,(M.lst xs).d=.lst xs:=λ_=>rfl
 have sT:∀ lo hi,nSl (.lst (Ts.map D.str)) lo hi=.ok (.lst ((cutD Ts lo hi).map D.str)):=λlo hi=>by rw [zhL,zmJ]
 obtain ⟨a,h1,e1,a0,a1⟩:=zbR h (m:=6) (by decide) (by decide)
 obtain ⟨i,h2,e3,i0,i1⟩:=zbR h1 (m:=((Ts.length:Nat):Int)) (by omega) (by omega)
 obtain ⟨x,hx,ex⟩:=zpq (xs:=Ts.map D.str) i0 (by rw [yac]; exact i1)
 obtain ⟨T,hTm,rfl⟩:=yal.mp hx
 have tT:=hT.2 T hTm
 unfold zcI
 rw [e1,zac,lenT,zac,e3,zac]
 dsimp only
 rw [zdV,zac]
 simp only [zvT]
 by_cases c3:a<3
 ·rw [yaM (yaj c3)]
  obtain ⟨T',h3,e7,t7⟩:=zjN h2 tT
  have p1:LT 4 300 (cutD Ts none (some i)):=(hT.cut _ _).mono (by decide) (by decide)
  have p2:LT 4 300 (cutD Ts (some (i+1)) none):=(hT.cut _ _).mono (by decide) (by decide)
  have e8:zcf (.lst ((cutD Ts none (some i)).map D.str)) (.lst [.str T'])=_:=p1.add (LT.one t7) (by decide)
  have e11:=(p1.app (LT.one t7)).add p2 (by decide)
  refine ⟨.lst ((cutD Ts none (some i)++[T']++cutD Ts (some (i+1)) none).map D.str),_,h3,?_,rfl,((p1.app (LT.one t7)).app p2).mono (by decide) (by decide)⟩
  simp only [ni,sT,zac,ml,ex,e7,e8,zdA,fz_d,e11]
 rw [yaH (by simpa using c3)]
 rw [zjB,zac]
 by_cases c4:a=3
 ·rw [yaM (by rw [yaH yat]; exact yaj c4)]
  have h15:TxS 3 (" +n" : Str):=.of (by decide +kernel) (by decide +kernel)
  have h19:TxS 5 (" = -n" : Str):=.of (by decide +kernel) (by decide +kernel)
  have e15:=addT tT h15 (by decide)
  have e17:zgb (.str T) (.str " ")=.ok ((zbu T).map D.str):=zlx (tT.mono (by decide))
  obtain ⟨w1,w2,w3⟩:=zhc tT
  obtain ⟨w0,ws,ew⟩:∃ w0 ws,zbu T=w0::ws:=by
   cases q:zbu T with
   | nil=>exact absurd q w1
   | cons w0 ws=>exact ⟨w0,ws,rfl⟩
  have hw0:TxS 100 w0:=w3 w0 (by rw [ew]; exact yaa)
  have e19:=addT hw0 h19 (by decide)
  obtain ⟨u,h3,e20,u0,u1⟩:=zbR h2 (m:=3) (by decide) (by decide)
  obtain ⟨L,eL⟩:∃ L:List Str,L=[T,T ++ " +n",w0 ++ " = -n"]:=⟨_,rfl⟩
  obtain ⟨y,hy,e21⟩:=zpq (xs:=L.map D.str) u0 (by rw [yac,eL]; exact u1)
  obtain ⟨Y,hY,rfl⟩:=yal.mp hy
  have tY:TxS 300 Y:=by
   rw [eL] at hY
   simp only [yao,yaF,yb7] at hY
   rcases hY with rfl | rfl | rfl
   ·exact tT.mono (by decide)
   ·exact (tT.app h15).mono (by decide)
   ·exact (hw0.app h19).mono (by decide)
  rw [eL] at e21
  simp only [yau,List.map_nil] at e21
  obtain ⟨v,h4,e24,v0,v1⟩:=zbR h3 (m:=(((Ts.length:Nat):Int)+1)) (by omega) (by omega)
  have p1:LT 4 300 (cutD Ts none (some v)):=(hT.cut _ _).mono (by decide) (by decide)
  have e26:zcf (.lst ((cutD Ts none (some v)).map D.str)) (.lst [.str Y])=_:=p1.add (LT.one tY) (by decide)
  have p2:LT 4 300 Ts:=hT.mono (by decide) (by decide)
  have e27:=(p1.app (LT.one tY)).add p2 (by decide)
  refine ⟨.lst ((cutD Ts none (some v)++[Y]++Ts).map D.str),_,h4,?_,rfl,((p1.app (LT.one tY)).app p2).mono (by decide) (by decide)⟩
  have ty:nTy "str" (.str T)=.ok ():=rfl
  have ix0:nIx (.lst ((zbu T).map D.str)) (.int 0)=.ok (.str w0):=by rw [ew]; exact zh8 _ _
  simp only [ni,sT,zac,ml,ex,e15,ty,e17,ix0,e19,fz_d,e20,e21,lenT,zdA,e24,e26,e27]
 rw [yaH (by rw [yaH yat]; simpa using c4)]
 rw [zjB,zac]
 by_cases c5:a=4
 ·rw [yaM (by rw [yaH yat]; exact yaj c5)]
  obtain ⟨u,h3,e29,u0,u1⟩:=zbR h2 (m:=2) (by decide) (by decide)
  obtain ⟨z,e30⟩:∃ z:Int,nIx (.lst [.int 8,.int 9]) (.int u)=.ok (.int z):=by
   rcases (show u=0\/u=1 by omega) with rfl | rfl
   ·exact ⟨8,zh8 _ _⟩
   ·exact ⟨9,zq9 _ _ _⟩
  have e33:nSl (.str "abcdefgh") none (some (z-((Ts.length:Nat):Int)))=.ok (.fz (.str (cutS "abcdefgh" none (some (z-((Ts.length:Nat):Int)))))):=zeI (by decide +kernel)
  have hz:TxS 8 (cutS "abcdefgh" none (some (z-((Ts.length:Nat):Int)))):=TxS.cut (.of (by decide +kernel) (by decide +kernel)) _ _
  generalize cutS "abcdefgh" none (some (z-((Ts.length:Nat):Int)))=s at e33 hz
  have hzz:TxS 2 ("zz" : Str):=.of (by decide +kernel) (by decide +kernel)
  have hn:TxS 5 (" = +n" : Str):=.of (by decide +kernel) (by decide +kernel)
  have sl:s.cps.toList.length<=8:=by
   have:=hz.1
   rwa [ybb] at this
  obtain ⟨Mo,eM⟩:∃ Mo:List Str,Mo=s.cps.toList.map λc => "zz" ++ (⟨#[c]⟩:Str) ++ " = +n" := ⟨_,rfl⟩
  have exs:lcM (λd_1:D=>R.bind (nAdd (.str "zz") d_1) λt_34=>R.bind (nAdd t_34.d (.str " = +n")) λt_35=>.ok t_35.d) (s.cps.toList.map sgn)=.ok (Mo.map D.str):=by
   rw [zeJ (g:=λd=>match d with
    | .str x=>.str ("zz" ++ x ++ " = +n")
    | _=>.non) (by rw [yac,zcn]; omega) λd hd=>by
      obtain ⟨c,hc,rfl⟩:=yal.mp hd
      have hs:TxS 1 (⟨#[c]⟩:Str):=hz.sgn hc
      show (R.bind (nAdd (.str "zz") (.str ⟨#[c]⟩)) _)=_
      rw [addT hzz hs (by decide),zac,fz_d,addT (hzz.app hs) hn (by decide),zac]
      rfl,eM,yaK,yaK]
   rfl
  have hM:LT 8 300 Mo:=⟨by rw [eM,yac]; exact sl,λx hx=>by
   rw [eM] at hx
   obtain ⟨c,hc,rfl⟩:=yal.mp hx
   exact ((hzz.app (hz.sgn hc)).app hn).mono (by decide)⟩
  have p2:LT 4 300 Ts:=hT.mono (by decide) (by decide)
  obtain ⟨v,h4,e36,v0,v1⟩:=zbR h3 (m:=2) (by decide) (by decide)
  have key:∃ Ts':List Str,(R.bind (nEq false (.int v) (.int 0)) λt_37=>R.bind (if t_37=true then (zcf (.lst (Ts.map D.str)) (.lst (Mo.map D.str)):R (List D)) else zcf (.lst (Mo.map D.str)) (.lst (Ts.map D.str))) λt_40=>R.ok ((M.lst t_40),[D.int h4]))=.ok (.lst (Ts'.map D.str),[.int h4])/\LT 20 900 Ts':=by
   rw [zjB,zac]
   by_cases v0:v=0
   ·refine ⟨Ts++Mo,?_,(p2.app hM).mono (by decide) (by decide)⟩
    rw [yaM (by rw [yaH yat]; exact yaj v0),p2.add hM (by decide),zac]
   ·refine ⟨Mo++Ts,?_,(hM.app p2).mono (by decide) (by decide)⟩
    rw [yaH (by rw [yaH yat]; simpa using v0),hM.add p2 (by decide),zac]
  obtain ⟨Ts',ek,hk⟩:=key
  refine ⟨.lst (Ts'.map D.str),Ts',h4,?_,rfl,hk⟩
  rw [← ek]
  simp only [e29,zac,e30,lenT,zq5,ni,e33,fz_d,zhK,exs,e36]
 rw [yaH (by rw [yaH yat]; simpa using c5)]
 obtain ⟨Bs,h3,eB,lB,tB⟩:=zrQ (Ts:=Ts) h2 hT.2
 have exs:lcS (λ(d_3:D) (s:List D)=>R.bind (zbw s d_3) λt_44=>.ok ((t_44.1,t_44.2))) (Ts.map D.str) [.int h2]=.ok (Bs.map D.str,[.int h3]):=(zaV (zdX (by rw [yac,zcn]; omega))).trans eB
 obtain ⟨u,h4,e45,u0,u1⟩:=zbR h3 (m:=4) (by decide) (by decide)
 have e42:nAdd (.lst (Ts.map D.str)) (.lst (Ts.map D.str))=.ok (.lst ((Ts++Ts).map D.str)):=by
  rw [zq7 (by rw [yac,zcn]; omega),yba]
 obtain ⟨L,eL⟩:∃ L:List (List Str),L=[[],cutD Ts (some i) none,Ts++Ts,Bs]:=⟨_,rfl⟩
 obtain ⟨y,hy,e46⟩:=zpq (xs:=L.map λl=>.lst (l.map D.str)) u0 (by rw [yac,eL]; exact u1)
 obtain ⟨Y,hY,rfl⟩:=yal.mp hy
 have p2:LT 4 300 Ts:=hT.mono (by decide) (by decide)
 have tY:LT 20 900 Y:=by
  rw [eL] at hY
  simp only [yao,yaF,yb7] at hY
  rcases hY with rfl | rfl | rfl | rfl
  ·exact ⟨ya4 _,λ_ z=>nomatch z⟩
  ·exact (hT.cut _ _).mono (by decide) (by decide)
  ·exact (p2.app p2).mono (by decide) (by decide)
  ·exact LT.mono (k:=4) ⟨by omega,tB⟩ (by decide) (by decide)
 rw [eL] at e46
 simp only [yau,List.map_nil] at e46
 refine ⟨.fz (.lst (Y.map D.str)),Y,h4,?_,rfl,tY⟩
 simp only [ni,sT,zac,ml,e42,show zbf (.lst (Ts.map D.str))=.ok (Ts.map D.str) from rfl,exs,e45,e46]
def zfp (p:D):Str:=zrL p++ztt p
def znH (r:D):Str:=match r with
 | .tup [.str n,.tup ps]=>Txt.join " " (n :: "=" :: ps.map zfp)
 | _ => ""
theorem zoI {p:D} (h:zeK p):TxS 9 (zfp p):=by
 obtain ⟨_,h1,h2⟩:=zkA h
 have a:=zrM h2
 have b:=zhb h1
 exact ⟨by unfold zfp; rw [znA]; omega,λc hc=>by
  unfold zfp at hc
  rw [TL.tl_append] at hc
  exact (yas.mp hc).elim (λz=>(a.1 c z).1) λz=>(b.1 c z).1⟩
theorem zjO {r:D} (h:GRow r):∃ (n:Str) (ps:List D),r=.tup [.str n,.tup ps]/\znH r=Txt.join " " (n :: "=" :: ps.map zfp)/\WLs 100 (n :: "=" :: ps.map zfp)/\(∀ p∈ps,zeK p)/\ps.length<=4:=by
 obtain ⟨n,ps,rfl,h1,h2,h3,h4⟩:=h
 refine ⟨n,ps,rfl,rfl,⟨?_,λw hw => ?_⟩,h4,h3⟩
 ·have hn:=(zhb h1).2.2
  have s:∀ qs:List D,(∀ q∈qs,zeK q)->sumW (qs.map zfp)<=qs.length*10:=λqs=>by
   induction qs with
   | nil=>exact λ_=>yaw _
   | cons q qs ih =>
     intro g
     have a:=(zoI (g q yaa)).1
     have b:=ih λx hx=>g x (yab _ hx)
     unfold sumW at b ⊢
     rw [yau,yau,yby,yaq]
     omega
  have:=s ps h4
  have e:sumW (n :: "=" :: ps.map zfp)=n.length+1+(("=" : Str).length+1+sumW (ps.map zfp)):=rfl
  rw [e,show ("=" : Str).length=1 from rfl]
  omega
 ·rcases yao.mp hw with rfl | hw
  ·exact λc hc=>((zhb h1).1 c hc).1
  ·rcases yao.mp hw with rfl | hw
   ·exact (TxS.of (n:=1) (by decide +kernel) (by decide +kernel)).2
   ·obtain ⟨p,hp,rfl⟩:=yal.mp hw
    exact (zoI (h4 p hp)).2
theorem ztA {r:D} (h:GRow r):TxS 100 (znH r):=by
 obtain ⟨n,ps,_,e,w,_⟩:=zjO h
 rw [e]
 exact w.join
theorem zrR {ps:List D} (g:∀ p∈ps,zeK p) (l:ps.length<=4):lcM (λd_1:D=>R.bind (nIx d_1 (.int 1)) λt_1=>R.bind (nIx d_1 (.int 0)) λt_2=>R.bind (nAdd t_1 t_2) λt_3=>.ok t_3.d) ps=.ok ((ps.map zfp).map D.str):=by
 rw [zeJ (g:=λd=>.str (zfp d)) (by rw [zcn]; omega) λp hp=>by
  obtain ⟨e,h1,h2⟩:=zkA (g p hp)
  have a:=(zrM h2).2
  have b:=(zhb h1).2
  rw [show nIx p (.int 1)=.ok (.str (zrL p)) by rw [e]; exact zjA _ _ _,zac,show nIx p (.int 0)=.ok (.str (ztt p)) by rw [e]; exact zjz _ _,zac,zjy (by rw [zcn]; omega),zac]
  rfl,yaK]
 rfl
theorem zpw {n:Str} {ps:List D} (w:WLs 100 (n :: "=" :: ps.map zfp)) (g:∀ p∈ps,zeK p) (l:ps.length<=4):zeg (.str n) (.tup ps)=.ok (.str (Txt.join " " (n :: "=" :: ps.map zfp))):=by
 unfold zeg
 rw [zeU,zac,zrR g l,zac]
 have e:zcf (.lst [.str n,.str "="]) (.lst ((ps.map zfp).map D.str))=.ok ((n :: "=" :: ps.map zfp).map D.str):=ziE (by rw [yac,yac]; show 2+_<=_; omega)
 rw [e,zac,w.joinN (by decide),zac]
theorem zmL {r:D} (h:GRow r):zdy r=.ok (.str (znH r)):=by
 obtain ⟨n,ps,rfl,e,w,g,l⟩:=zjO h
 unfold zdy
 rw [zjz,zac,zjA,zac,zeU,zac,zrR g l,zac]
 have a:zcf (.lst [.str n,.str "="]) (.lst ((ps.map zfp).map D.str))=.ok ((n :: "=" :: ps.map zfp).map D.str):=ziE (by rw [yac,yac]; show 2+_<=_; omega)
 rw [a,zac,w.joinN (by decide),zac,e]
theorem zwz {r:D} (h:GRow r) (K:Unit->R Bool):zaP r () K=K ():=by
 obtain ⟨n,ps,e0,e,w,g,l⟩:=zjO h
 unfold zaP
 rw [zmL h]
 rw [show nIx r (.int 0)=.ok (.str n) by rw [e0]; exact zjz _ _,zac,show nIx r (.int 1)=.ok (.tup ps) by rw [e0]; exact zjA _ _ _,zac,zpw w g l,zac,show nIsi "str" (.str (Txt.join " " (n :: "=" :: ps.map zfp)))=.ok true from rfl,zac,e]
 show R.bind (orB false _) _=_
 rw [orF,zac,zvQ,yaj rfl]
 rfl
def zfV (w:Int):D:=.lst ([.bl (decide (0=w)),.bl (decide (1=w)),.bl (decide (2=w)),.bl false,.bl false,.bl false,.bl false,.bl false,.bl false,.bl true])
theorem zpx (k:Int):zaD (noT k)=.ok [.bl true,.bl false,.bl false,.bl false,.bl false,.bl false,.bl false,.bl false,.bl false,.bl true]:=by
 unfold zaD
 rfl
theorem zpy (s:Str):zaD (twX s)=.ok [.bl false,.bl true,.bl false,.bl false,.bl false,.bl false,.bl false,.bl false,.bl false,.bl true]:=by
 unfold zaD
 rfl
theorem zpz:zaD ⟨"NoStock",none⟩=.ok [.bl false,.bl false,.bl true,.bl false,.bl false,.bl false,.bl false,.bl false,.bl false,.bl true]:=by
 unfold zaD
 rfl
def askD:Due6->D
 | .bad k=>.tup [.non,zfV 0,.int (k:Nat)]
 | .twice s=>.tup [.non,zfV 1,.str s]
 | .many=>.tup [.non,zfV 2,.non]
 | .tells d=>.tup [d,.lst [],.non]
theorem ztB {Ts:List Str} (hl:Ts.length<=100) (h:∀ T∈Ts,TxS 900 T):zck (.lst (Ts.map D.str))=.ok (askD (dueX Ts)):=by
 unfold zck
 rw [zmH hl h]
 cases dueX Ts with
 | bad k =>
   show (R.bind (R.calm (zaD (noT k))) _)=_
   rw [zpx]
   rfl
 | twice s =>
   show (R.bind (R.calm (zaD (twX s))) _)=_
   rw [zpy]
   rfl
 | many =>
   show (R.bind (R.calm (zaD ⟨"NoStock",none⟩)) _)=_
   rw [zpz]
   rfl
 | tells d=>rfl
theorem ztC {s:Str} (h:zaK s=true):Sm 0 (.str s):=⟨by have:=(zhb h).2.2; omega,zrg h⟩
theorem ztD (w:Int):Sm 1 (zfV w):=⟨by show 10<=1000; decide,λd hd=>by
 simp only [yao,yaF,yb7] at hd
 rcases hd with rfl | rfl | rfl | rfl | rfl | rfl | rfl | rfl | rfl | rfl<;>trivial⟩
theorem ask_sm {Ts:List Str} (hl:Ts.length<=100):Sm 6 (askD (dueX Ts)):=by
 have three:∀ {a b c:D},Sm 5 a->Sm 5 b->Sm 5 c->Sm 6 (.tup [a,b,c]):=λha hb hc=>⟨by show 3<=1000; decide,λd hd=>by
  simp only [yao,yaF,yb7] at hd
  rcases hd with rfl | rfl | rfl
  ·exact ha
  ·exact hb
  ·exact hc⟩
 have fl:∀ w,Sm 5 (zfV w):=λw=>(ztD w).mono (by decide)
 unfold dueX
 cases hb:fb 0 (Ts.map rowW) with
 | some k=>exact three trivial (fl 0) trivial
 | none =>
   have g:=zhO hb
   show Sm 6 (askD (match fd [] ((zb6 Ts).map zaE) with
    | some s=>.twice s
    | none=>if (decide (1<=Ts.length)&&decide (Ts.length<=8))=true then .tells (.tup (zdt (zb6 Ts))) else .many))
   cases hd:fd [] ((zb6 Ts).map zaE) with
   | some s =>
     obtain ⟨j,h1,_⟩:=znE hd
     rw [yaA] at h1
     obtain ⟨r,hr,e⟩:=yaJ.mp h1
     obtain ⟨n,ps,rfl,hn,_⟩:=g r (yaP hr)
     have e:n=s:=e
     rw [← e]
     exact three trivial (fl 1) ((ztC hn).mono (by decide))
   | none =>
     dsimp only
     split
     ·refine three ?_ (show Sm 5 (.lst []) from ⟨ya4 _,λ_ z=>nomatch z⟩) trivial
      have pm:=ybp (zb6 Ts) leD
      have sl:(zdt (zb6 Ts)).length=Ts.length:=by
       have:(zb6 Ts).length=Ts.length:=yac ..
       rw [← this]
       exact pm.length_eq
      exact ⟨by rw [sl]; omega,λr hr=>(znv (g r (pm.mem_iff.mp hr))).mono (by decide)⟩
     ·exact three trivial (fl 2) trivial
theorem zlz {w:Int} (h:w=0\/w=1\/w=2):(R.bind (nR1 (.int 9)) λds_4=>R.bind (lcM (λd_5:D=>R.bind (nEq false d_5 (.int w)) λt_22=>.ok ((.bl t_22))) ds_4) λxs_2=>zcf (.lst xs_2) (.lst [.bl true])) =
 .ok [.bl (decide (0=w)),.bl (decide (1=w)),.bl (decide (2=w)),.bl false,.bl false,.bl false,.bl false,.bl false,.bl false,.bl true]:=by
 rw [zms (by decide) (by decide),zac]
 have e:rngD 0 (9:Int).toNat=[.int 0,.int 1,.int 2,.int 3,.int 4,.int 5,.int 6,.int 7,.int 8]:=rfl
 rw [e,zeJ (g:=λd=>match d with
  | .int k=>.bl (decide (k=w))
  | _=>.non) (by rw [zcn]; decide) λd hd=>by
    simp only [yao,yaF,yb7] at hd
    rcases hd with rfl | rfl | rfl | rfl | rfl | rfl | rfl | rfl | rfl<;>(rw [zjB]; rfl),zac]
 rcases h with rfl | rfl | rfl<;>rfl
theorem zrS {Ts:List Str} (h:LT 20 900 Ts) (K:Unit->R Bool):zaQ (.lst (Ts.map D.str)) () K=K ():=by
 have hl:Ts.length<=100:=ya5 h.1 (by decide)
 have sl:Sm 1 (.lst (Ts.map D.str)):=⟨by rw [yac]; omega,λd hd=>by
  obtain ⟨T,hT,rfl⟩:=yal.mp hd
  exact (h.2 T hT).sm (by decide)⟩
 have same:=zrI sl (by decide)
 have sa:=zrI (ask_sm hl) (by decide)
 unfold zaQ
 rw [zq8,zac,ztx hl h.2,zac,ztB hl h.2]
 cases hx:dueX Ts with
 | bad k =>
   rw [hx] at sa
   rw [show nUn3 (dueD (.bad k))=.ok (.non,.int 0,.int (k:Nat)) from rfl,zac,zac]
   dsimp only
   rw [show nIs true (.int 0) .non=.ok true from rfl,zac,yaM rfl,zlz (.inl rfl),zac]
   have sa:nEq true (askD (.bad k)) (.tup [.non,zfV 0,.int (k:Nat)])=.ok false:=sa
   show (R.bind (nEq true (askD (.bad k)) (.tup [.non,zfV 0,.int (k:Nat)])) _)=_
   rw [sa,zac,orF,show nIx (askD (.bad k)) (.int 2)=.ok (.int (k:Nat)) from zoo _ _ _ _,zac,show nIsi "bool" (.int (k:Nat))=.ok false from rfl,zac,orF,same,zac]
   rfl
 | twice s =>
   rw [hx] at sa
   rw [show nUn3 (dueD (.twice s))=.ok (.non,.int 1,.str s) from rfl,zac,zac]
   dsimp only
   rw [show nIs true (.int 1) .non=.ok true from rfl,zac,yaM rfl,zlz (.inr (.inl rfl)),zac]
   have sa:nEq true (askD (.twice s)) (.tup [.non,zfV 1,.str s])=.ok false:=sa
   show (R.bind (nEq true (askD (.twice s)) (.tup [.non,zfV 1,.str s])) _)=_
   rw [sa,zac,orF,show nIx (askD (.twice s)) (.int 2)=.ok (.str s) from zoo _ _ _ _,zac,show nIsi "bool" (.str s)=.ok false from rfl,zac,orF,same,zac]
   rfl
 | many =>
   rw [hx] at sa
   rw [show nUn3 (dueD .many)=.ok (.non,.int 2,.non) from rfl,zac,zac]
   dsimp only
   rw [show nIs true (.int 2) .non=.ok true from rfl,zac,yaM rfl,zlz (.inr (.inr rfl)),zac]
   have sa:nEq true (askD .many) (.tup [.non,zfV 2,.non])=.ok false:=sa
   show (R.bind (nEq true (askD .many) (.tup [.non,zfV 2,.non])) _)=_
   rw [sa,zac,orF,show nIx (askD .many) (.int 2)=.ok .non from zoo _ _ _ _,zac,show nIsi "bool" .non=.ok false from rfl,zac,orF,same,zac]
   rfl
 | tells d =>
   rw [hx] at sa
   rw [show nUn3 (dueD (.tells d))=.ok (d,.non,.non) from rfl,zac,zac]
   dsimp only
   rw [show nIs true .non .non=.ok false from rfl,zac,yaH yat,zac]
   have sa:nEq true (askD (.tells d)) (.tup [d,.lst [],.non])=.ok false:=sa
   show (R.bind (nEq true (askD (.tells d)) (.tup [d,.lst [],.non])) _)=_
   rw [sa,zac,orF,show nIx (askD (.tells d)) (.int 2)=.ok .non from zoo _ _ _ _,zac,show nIsi "bool" .non=.ok false from rfl,zac,orF,same,zac]
   rfl
theorem zpA {ns:List Int} {c:Int} (c0:0<=c) (K:Unit->R Bool):zaR (.scr ns) (.int c) () K=K ():=by
 obtain ⟨h0,e1⟩:=zow ns c0
 obtain ⟨rows,h1,e2,_,r1,r4,g⟩:=zv7 h0
 obtain ⟨p,h2,e3,pm⟩:=zwh h1 (N:=rows.length) (by omega)
 obtain ⟨h3,e4⟩:=zow ns (show (0:Int)<=c+1 by omega)
 have pl:p.length=rows.length:=by rw [pm.length_eq,yaI]
 obtain ⟨Ts,eT⟩:∃ Ts:List Str,Ts=p.map λk=>znH (rows[k]?.getD .non):=⟨_,rfl⟩
 have at_:∀ k∈p,∃ r,rows[k]?=some r/\GRow r:=λk hk=>by
  have:=yav.mp (pm.mem_iff.mp hk)
  exact ⟨rows[k],yad this,g _ (ybV _)⟩
 have el:lcM (λd_3:D=>R.bind (nIx (.tup rows) d_3) λt_13=>zdy t_13) (p.map nD)=.ok (Ts.map D.str):=by
  rw [zeJ (g:=λd=>match d with
   | .int k=>.str (znH (rows[k.toNat]?.getD .non))
   | _=>.non) (by rw [yac,zcn]; omega) λd hd=>by
     obtain ⟨k,hk,rfl⟩:=yal.mp hd
     obtain ⟨r,er,gr⟩:=at_ k hk
     rw [show nIx (.tup rows) (nD k)=.ok r from zlh (atI_nat er),zac,zmL gr]
     show R.ok (D.str (znH r))=R.ok (D.str (znH (rows[((k:Nat):Int).toNat]?.getD .non)))
     rw [yaS,er]
     rfl,eT,yaK,yaK]
  rfl
 have hT:LT 4 100 Ts:=⟨by rw [eT,yac]; omega,λT hT=>by
  rw [eT] at hT
  obtain ⟨k,hk,rfl⟩:=yal.mp hT
  obtain ⟨r,er,gr⟩:=at_ k hk
  rw [er]
  exact ztA gr⟩
 obtain ⟨m,Ts',h4,e5,em,hT'⟩:=zwy h3 (Ts:=Ts) (by rw [eT,yac]; omega) hT
 unfold zaR
 rw [e1,zac,e2,zac]
 dsimp only
 rw [zeU,zac,zjF λd hd K=>zwz (g d hd) K,zfg,zac,e3,zac]
 dsimp only
 rw [el,zac,zdA,zac,fz_d,e4,zac,e5,zac]
 dsimp only
 rw [em,zpc,zac]
 exact zjF λd hd K=>by
  simp only [yao,yaF,yb7] at hd
  rcases hd with rfl | rfl
  ·exact zrS (hT.mono (by decide) (by decide)) K
  ·exact zrS hT' K
theorem zwA (ns:List Int) (hl:ns.length<=63):zay (.scr ns)=.ok true:=by
 unfold zay
 have em:nMx imax (.int 1) (.int (ns.length:Nat))=.ok (.int (imax 1 (ns.length:Nat))):=rfl
 have b1:1<=imax 1 (ns.length:Nat):=by
  unfold imax
  split<;>omega
 have b2:imax 1 (ns.length:Nat)<=63:=by
  unfold imax
  split<;>omega
 obtain ⟨ds,e,hd⟩:=zwj b1 b2
 rw [zon,zac,em,zac,e,zac]
 exact zjF λd h K=>by
  obtain ⟨c,c0,rfl⟩:=hd d h
  exact zpA c0 K
end VW
set_option maxHeartbeats 8000000
namespace VW
open PySem PySem.Spec PyProof.Rows L2 R
namespace LK06
theorem law_true (ns:List Int) (hl:ns.length<=63):zay (.scr ns)=.ok true:=zwA ns hl
section
variable {P:Program} {w:World} {K:PySem.W.Frag} {mg:Str->Option Value} {base:Heap} {xr:Xn->Value->Option Addr->Hp->Prop}
abbrev zkB:List Str:=["thing", "sign"]
theorem zmM:FnScope zkB ["thing"] (defScope zd5):=⟨rfl,rfl,rfl,by decide +kernel,rfl,by decide +kernel,by decide +kernel⟩
theorem zrT {f:Addr} {k:Nat}
 (m_len:mg "len" = none)
 (m_LONGEST:Cst mg "LONGEST" (.int (8)))
 (m_isinstance:mg "isinstance" = none)
 (m_str:mg "str" = none)
 (m_LETTERS:Cst mg "LETTERS" (.str "abcdefghijklmnopqrstuvwxyz"))
 (cdv:Value) (A:Around) (outer:List Env) (s:Shared) (H:Hp) (E:XK) (vs:List V) (hl:vs.length=1) (hr:Room k (A.deeper (envOfC "is_name" (defScope zd5) s.heap.objs.size f cdv))) :
 SSs (yOf P w K mg base xr zkB "is_name" (defScope zd5) f cdv A outer s H E) (zcB [] vs) (defBody zd5) zl4 :=
 yseq (yif ((zdH (zc0 (ttru (zab (xblt m_isinstance call_isi zft boot_isinstance (zae (xp 0) (zae (zab (xTy m_str boot_str)) (zaf))))))) (zdP (zc0 (tchn .LtE .LtE (zbd hr.units .le) (zbd hr.units .le) (zce .le) (zce .le) (zab (xI)) (zab (xblt m_len zav zbv yaC (zae (xp 0) (zaf)))) (zab (xG m_LONGEST)))))).st)
 (zal (yret (zab (xB))))
 (zbr))
 (yseq (yfor (passes_of rfl) rfl (zdI (xv 0)) (gn 1 zmM.nd)
 (zal (yif (tcmp .NotIn (ze0 hr.units true) (ziX true) (xp 1) (zab (xG m_LETTERS)))
 (zal (yret (zab (xB))))
 (zbr))))
 (zal (yret (zab (xB)))))
abbrev zkC:List Str:=["thing"]
theorem zrU:FnScope zkC ["thing"] (defScope zd6):=⟨rfl,rfl,rfl,by decide +kernel,rfl,by decide +kernel,by decide +kernel⟩
theorem zrV {f:Addr} {k:Nat}
 (m_len:mg "len" = none)
 (m_isinstance:mg "isinstance" = none)
 (m_tuple:mg "tuple" = none)
 (m_str:mg "str" = none)
 (F_is_name:Cal P w K mg base xr k "is_name" zdK)
 (cdv:Value) (A:Around) (outer:List Env) (s:Shared) (H:Hp) (E:XK) (vs:List V) (hl:vs.length=1) (hr:Room k (A.deeper (envOfC "is_spec" (defScope zd6) s.heap.objs.size f cdv))) :
 SSs (yOf P w K mg base xr zkC "is_spec" (defScope zd6) f cdv A outer s H E) (zcB [] vs) (defBody zd6) zl6 :=
 yseq (yif ((zdH (zc0 (ttru (zab (xblt m_isinstance call_isi zft boot_isinstance (zae (xp 0) (zae (zab (xTy m_tuple boot_tuple)) (zaf))))))) (zdH (tcmp .NotEq (zc6 hr.units) zfs (zab (xblt m_len zav zbv yaC (zae (xp 0) (zaf)))) (zab (xI))) (zdP (zc0 (ttru (zab (xc F_is_name hr (zae (zas (xix (xp 0) (zab (xI)) hr.units)) (zaf))))))))).st)
 (zal (yret (zab (xB))))
 (zbr))
 (zal (yret (zab (ztI (xblt m_isinstance call_isi zft boot_isinstance (zae (zab (xix (xp 0) (zab (xI)) hr.units)) (zae (zab (xTy m_str boot_str)) (zaf)))) (ztJ (xcmp .In (ze0 hr.units false) (ziX false) (zab (xix (xp 0) (zab (xI)) hr.units)) (zab (zqr (.tup [.str "+",.str "-"]) (zeq (zae (zab (xS)) (zae (zab (xS)) (zaf))))))))))))
abbrev zgj:List Str:=["thing", "spec"]
theorem zfi:FnScope zgj ["thing"] (defScope zbT):=⟨rfl,rfl,rfl,by decide +kernel,rfl,by decide +kernel,by decide +kernel⟩
theorem zlA {f:Addr} {k:Nat}
 (m_len:mg "len" = none)
 (m_isinstance:mg "isinstance" = none)
 (m_tuple:mg "tuple" = none)
 (m_MOST_PORTS:Cst mg "MOST_PORTS" (.int (4)))
 (m_all:mg "all" = none)
 (F_is_name:Cal P w K mg base xr k "is_name" zdK)
 (F_is_spec:Cal P w K mg base xr k "is_spec" zjf)
 (cdv:Value) (A:Around) (outer:List Env) (s:Shared) (H:Hp) (E:XK) (vs:List V) (hl:vs.length=1) (hr:Room k (A.deeper (envOfC "is_kind_row" (defScope zbT) s.heap.objs.size f cdv))) :
 SSs (yOf P w K mg base xr zgj "is_kind_row" (defScope zbT) f cdv A outer s H E) (zcB [] vs) (defBody zbT) zgV :=
 yseq (yif ((zdH (zc0 (ttru (zab (xblt m_isinstance call_isi zft boot_isinstance (zae (xp 0) (zae (zab (xTy m_tuple boot_tuple)) (zaf))))))) (zdH (tcmp .NotEq (zc6 hr.units) zfs (zab (xblt m_len zav zbv yaC (zae (xp 0) (zaf)))) (zab (xI))) (zdP (zc0 (ttru (zab (xc F_is_name hr (zae (zas (xix (xp 0) (zab (xI)) hr.units)) (zaf))))))))).st)
 (zal (yret (zab (xB))))
 (zbr))
 (yseq (yif ((zdH (zc0 (ttru (zab (xblt m_isinstance call_isi zft boot_isinstance (zae (zab (xix (xp 0) (zab (xI)) hr.units)) (zae (zab (xTy m_tuple boot_tuple)) (zaf))))))) (zdP (zc0 (tchn .LtE .LtE (zbd hr.units .le) (zbd hr.units .le) (zce .le) (zce .le) (zab (xI)) (zab (xblt m_len zav zbv yaC (zae (zab (xix (xp 0) (zab (xI)) hr.units)) (zaf)))) (zab (xG m_MOST_PORTS)))))).st)
 (zal (yret (zab (xB))))
 (zbr))
 (zal (yret (zab (xblt m_all (cr_all rfl) zuZ boot_all (zae (zab (xlc [("spec",1)] [1] rfl zfi.nd (zdI (xix (xp 0) (zab (xI)) hr.units)) (zdj rfl) (λ_ _ _ _ _=>gn 1 zfi.nd) (λ_ _ _ _ _=>zcR) (λ_ _ _ _ _=>xc F_is_spec hr (zae (zas (xv 1)) (zaf))))) (zaf)))))))
abbrev zjP:List Str:=["thing", "ahead", "row"]
theorem zf6:FnScope zjP ["thing"] (defScope zdl):=⟨rfl,rfl,rfl,by decide +kernel,rfl,by decide +kernel,by decide +kernel⟩
theorem zpB {f:Addr} {k:Nat}
 (m_len:mg "len" = none)
 (m_MOST_KINDS:Cst mg "MOST_KINDS" (.int (8)))
 (m_isinstance:mg "isinstance" = none)
 (m_tuple:mg "tuple" = none)
 (F_is_kind_row:Cal P w K mg base xr k "is_kind_row" zct)
 (cdv:Value) (A:Around) (outer:List Env) (s:Shared) (H:Hp) (E:XK) (vs:List V) (hl:vs.length=1) (hr:Room k (A.deeper (envOfC "is_stock" (defScope zdl) s.heap.objs.size f cdv))) :
 SSs (yOf P w K mg base xr zjP "is_stock" (defScope zdl) f cdv A outer s H E) (zcB [] vs) (defBody zdl) zko :=
 yseq (yif ((zdH (zc0 (ttru (zab (xblt m_isinstance call_isi zft boot_isinstance (zae (xp 0) (zae (zab (xTy m_tuple boot_tuple)) (zaf))))))) (zdP (zc0 (tchn .LtE .LtE (zbd hr.units .le) (zbd hr.units .le) (zce .le) (zce .le) (zab (xI)) (zab (xblt m_len zav zbv yaC (zae (xp 0) (zaf)))) (zab (xG m_MOST_KINDS)))))).st)
 (zal (yret (zab (xB))))
 (zbr))
 (yseq (yset 1 (xS) zf6.nd)
 (yseq (yfor (passes_of rfl) rfl (zdI (xv 0)) (gn 2 zf6.nd)
 (yseq (yif ((zdH (zc0 (ttru (zab (xc F_is_kind_row hr (zae (zas (xv 2)) (zaf)))))) (zdP (zc0 (tcmp .Lt (zbd hr.units .lt) (zce .lt) (xp 1) (zab (xix (xp 2) (zab (xI)) hr.units)))))).st)
 (zal (yret (zab (xB))))
 (zbr))
 (zal (yset 1 (xix (xp 2) (zab (xI)) hr.units) zf6.nd))))
 (zal (yret (zab (xB))))))
abbrev zig:List Str:=["word"]
theorem znI:FnScope zig ["word"] (defScope zcK):=⟨rfl,rfl,rfl,by decide +kernel,rfl,by decide +kernel,by decide +kernel⟩
theorem znJ {f:Addr} {k:Nat}
 (xs:Xs K mg xr nsX npX)
 (X_NoText:XFd P w K mg base 1 "NoText" "at")
 (hk2:2<=k)
 (F_is_name:Cal P w K mg base xr k "is_name" zdK)
 (cdv:Value) (A:Around) (outer:List Env) (s:Shared) (H:Hp) (E:XK) (vs:List V) (hl:vs.length=1) (hr:Room k (A.deeper (envOfC "read_spec" (defScope zcK) s.heap.objs.size f cdv))) :
 SSs (yOfN P w K mg base xr zig "read_spec" (defScope zcK) f cdv A outer s H E) (zcB [] vs) (defBody zcK) zh5 :=
 yseq (yif ((zdH (tcmp .NotIn (ze0 hr.units true) (ziX true) (zab (xsl (xp 0) (zcp) (zbm (xI)))) (zab (zqr (.tup [.str "+",.str "-"]) (zeq (zae (zab (xS)) (zae (zab (xS)) (zaf))))))) (zdH (tcmp .Eq (zes hr.units) zhV (xp 0) (zab (xS))) (zdP (zc0 (ttru (zab (xcN (Cal.calm F_is_name) hr (zae (zas (xsl (xp 0) (zbm (xI)) (zcp))) (zaf))))))))).st)
 (zal (zsZ xs (by decide +kernel) X_NoText (hr.mono hk2) (xI)))
 (zbr))
 (zal (yret (zab (zeq (zae (zas (xsl (xp 0) (zbm (xI)) (zcp))) (zae (zas (xsl (xp 0) (zcp) (zbm (xI)))) (zaf)))))))
abbrev zih:List Str:=["kind", "ports", "spec"]
theorem zgH:FnScope zih ["kind", "ports"] (defScope zcL):=⟨rfl,rfl,rfl,by decide +kernel,rfl,by decide +kernel,by decide +kernel⟩
theorem znK {f:Addr} {k:Nat}
 (cdv:Value) (A:Around) (outer:List Env) (s:Shared) (H:Hp) (E:XK) (vs:List V) (hl:vs.length=2) (hr:Room k (A.deeper (envOfC "show_kind" (defScope zcL) s.heap.objs.size f cdv))) :
 SSs (yOf P w K mg base xr zih "show_kind" (defScope zcL) f cdv A outer s H E) (zcB [] vs) (defBody zcL) zjq :=
 zal (yret (zab (xmt yaG ya6 ya7 mt_join ze2 (zab (xS)) (zae (zab (zao zah zan (zab (zbl (zae (zas (xv 0)) (zae (zab (xS)) (zaf))))) (zab (xlc [("spec",2)] [2] rfl zgH.nd (zdI (xv 1)) (zdj rfl) (λ_ _ _ _ _=>gn 2 zgH.nd) (λ_ _ _ _ _=>zcR) (λ_ _ _ _ _=>zao zah zan (zab (xix (xp 2) (zab (xI)) hr.units)) (zab (xix (xp 2) (zab (xI)) hr.units))))))) (zaf)))))
abbrev zii:List Str:=["text", "at", "words", "row", "word"]
theorem zej:FnScope zii ["text", "at"] (defScope zcM):=⟨rfl,rfl,rfl,by decide +kernel,rfl,by decide +kernel,by decide +kernel⟩
theorem znL {f:Addr} {k:Nat}
 (m_len:mg "len" = none)
 (xs:Xs K mg xr nsX npX)
 (X_NoText:XFd P w K mg base 1 "NoText" "at")
 (hk2:2<=k)
 (m_tuple:mg "tuple" = none)
 (XH_NoText:XFdH P w K mg base 1 "NoText" "at")
 (F_read_spec:CalN P w K mg base xr k "read_spec" zez)
 (F_is_kind_row:Cal P w K mg base xr k "is_kind_row" zct)
 (cdv:Value) (A:Around) (outer:List Env) (s:Shared) (H:Hp) (E:XK) (vs:List V) (hl:vs.length=2) (hr:Room k (A.deeper (envOfC "read_kind" (defScope zcM) s.heap.objs.size f cdv))) :
 SSs (yOf P w K mg base xr zii "read_kind" (defScope zcM) f cdv A outer s H E) (zcB [] vs) (defBody zcM) zjr :=
 yseq (yset 2 (xmt yaG ybB ybC mt_split zgU (xp 0) (zae (zab (xS)) (zaf))) zej.nd)
 (yseq (yif ((zdH (tcmp .Lt (zbd hr.units .lt) (zce .lt) (zab (xblt m_len zav zbv yaC (zae (xp 2) (zaf)))) (zab (xI))) (zdP (tcmp .NotEq (zc6 hr.units) zfs (zab (xix (xp 2) (zab (xI)) hr.units)) (zab (xS))))).st)
 (zal (znb xs (by decide +kernel) X_NoText (hr.mono hk2) (xv 1)))
 (zbr))
 (yseq (ytryX xs (by decide +kernel) (λW pn xe tk _=>zal (yset 3 (zeq (zae (zas (xix (xp 2) (zab (xI)) hr.units)) (zae (zas (xty m_tuple zds zeM boot_tuple (zae (zab (xlcX (λ_ _=>looksN) (takeN tk) [("word",4)] [4] rfl zej.nd (zdI (xsl (xp 2) (zbm (xI)) (zcp))) (zdj rfl) (λ_ _ _ _ _=>gn 4 zej.nd) (λ_ _ _ _ _=>zcR) (λ_ _ _ _ _ _=>xcAN F_read_spec hr (zae (zas (xv 4)) (zaf))))) (zaf)))) (zaf)))) zej.nd))
 (by decide +kernel) XH_NoText (hr.mono hk2) (λ_ _=>xv 1))
 (yseq (yif (zc0 (ttru (zab (xc F_is_kind_row hr (zae (zas (xv 3)) (zaf))))))
 (zal (znb xs (by decide +kernel) X_NoText (hr.mono hk2) (xv 1)))
 (zbr))
 (zal (yret (xp 3))))))
abbrev zhd:List Str:=["texts", "rows", "known", "kind", "ports", "stock", "at", "text"]
theorem zbS:FnScope zhd ["texts"] (defScope zb8):=⟨rfl,rfl,rfl,by decide +kernel,rfl,by decide +kernel,by decide +kernel⟩
theorem zmN {f:Addr} {k:Nat}
 (m_enumerate:mg "enumerate" = none)
 (xs:Xs K mg xr nsX npX)
 (X_Twice:XFd P w K mg base 1 "Twice" "name")
 (hk2:2<=k)
 (m_tuple:mg "tuple" = none)
 (m_sorted:mg "sorted" = none)
 (F_read_kind:Cal P w K mg base xr k "read_kind" zfd)
 (F_is_stock:Cal P w K mg base xr k "is_stock" zf0)
 (cdv:Value) (A:Around) (outer:List Env) (s:Shared) (H:Hp) (E:XK) (vs:List V) (hl:vs.length=1) (hr:Room k (A.deeper (envOfC "read_stock" (defScope zb8) s.heap.objs.size f cdv))) :
 SSs (yOf P w K mg base xr zhd "read_stock" (defScope zb8) f cdv A outer s H E) (zcB [] vs) (defBody zb8) zh6 :=
 yseq (zvD (λ_ _=>looksC) (takeC (takes_of rfl rfl rfl rfl)) 1 [("at",6),("text",7)] [6,7] rfl zbS.nd (xen m_enumerate (xv 0)) (zdj rfl) (λ_ _ _ _ _=>gtup rfl (zm2 (gn 6 zbS.nd) (zm2 (gn 7 zbS.nd) (gnil)))) (λ_ _ _ _ _=>zcR) (λ_ _ _ _ _ _=>xcA F_read_kind hr (zae (zas (xv 7)) (zae (zas (xv 6)) (zaf)))))
 (yseq (yset 2 (zuG) zbS.nd)
 (yseq (yfor (passes_of rfl) rfl (zdI (xv 1)) (gtup rfl (zm2 (gn 3 zbS.nd) (zm2 (gn 4 zbS.nd) (gnil))))
 (yseq (yif (tcmp .In (ze0 hr.units false) (ziX false) (xp 3) (xp 2))
 (zal (znb xs (by decide +kernel) X_Twice (hr.mono hk2) (xv 3)))
 (zbr))
 (zal (yst 2 (xB) (xp 3) hr.units))))
 (yseq (yset 5 (xty m_tuple zds zeM boot_tuple (zae (zab (xblt m_sorted (zkk hr.units) zja boot_sorted (zae (xp 1) (zaf)))) (zaf))) zbS.nd)
 (yseq (yif (zc0 (ttru (zab (xc F_is_stock hr (zae (zas (xv 5)) (zaf))))))
 (zal (yraise xs (by decide +kernel) (by decide +kernel)))
 (zbr))
 (zal (yret (xp 5)))))))
abbrev zgk:List Str:=["_law_script", "_law_k", "_law_cell", "_law_total", "_law_number", "_law_turn"]
theorem zb2:FnScope zgk ["_law_script", "_law_k"] (defScope zbU):=⟨rfl,rfl,rfl,by decide +kernel,rfl,by decide +kernel,by decide +kernel⟩
theorem zlB {f:Addr} {k:Nat}
 (m_len:mg "len" = none)
 (m_range:mg "range" = none)
 (cdv:Value) (A:Around) (outer:List Env) (s:Shared) (H:Hp) (E:XK) (vs:List V) (hl:vs.length=2) (hr:Room k (A.deeper (envOfC "_law_digits" (defScope zbU) s.heap.objs.size f cdv))) :
 SSs (yOf P w K mg base xr zgk "_law_digits" (defScope zbU) f cdv A outer s H E) (zcB [] vs) (defBody zbU) zkp :=
 yseq (yset 2 (zuD (tcmp .Lt (zbd hr.units .lt) (zce .lt) (xp 1) (zab (xblt m_len zav zbv yaC (zae (xp 0) (zaf))))) (xix (xp 0) (xp 1) hr.units) (xI)) zb2.nd)
 (yseq (yif (tcmp .GtE (zbd hr.units .ge) (zce .ge) (xp 2) (zab (zao op_pow zp5 (zab (xI)) (zab (xI)))))
 (zal (yret (zab (zbl (zae (zas (zao op_sub zp4 (xp 2) (zab (zao op_pow zp5 (zab (xI)) (zab (xI)))))) (zaf))))))
 (zbr))
 (yseq (yset 3 (xI) zb2.nd)
 (yseq (yset 4 (zao op_mod zgm (zab (zao zah zan (zab (zao zah zan (zab (zao zd7 zgo (xp 2) (zab (xI)))) (zab (zao zd7 zgo (zab (xI)) (xp 1))))) (zab (xI)))) (zab (xI))) zb2.nd)
 (yseq (yfor (passes_of rfl) rfl (xr1 m_range (zab (xI))) (gn 5 zb2.nd)
 (yseq (yset 4 (zao op_mod zgm (zab (zao zah zan (zab (zao zah zan (zab (zao zd7 zgo (xp 4) (xp 4))) (zab (zao zd7 zgo (zab (xI)) (xp 4))))) (xp 5))) (zab (xI))) zb2.nd)
 (zal (yset 3 (zao zah zan (zab (zao zd7 zgo (xp 3) (zab (xI)))) (zab (zao op_mod zgm (zab (zao zd7 zgo (xp 4) (zab (xI)))) (zab (xI))))) zb2.nd))))
 (zal (yret (zab (zbl (zae (zas (xv 3)) (zaf))))))))))
abbrev zij:List Str:=["_law_held", "_law_many", "_law_found"]
theorem zjQ:FnScope zij ["_law_held", "_law_many"] (defScope zcN):=⟨rfl,rfl,rfl,by decide +kernel,rfl,by decide +kernel,by decide +kernel⟩
theorem znM {f:Addr} {k:Nat}
 (cdv:Value) (A:Around) (outer:List Env) (s:Shared) (H:Hp) (E:XK) (vs:List V) (hl:vs.length=2) (hr:Room k (A.deeper (envOfC "_law_take" (defScope zcN) s.heap.objs.size f cdv))) :
 SSs (yOf P w K mg base xr zij "_law_take" (defScope zcN) f cdv A outer s H E) (zcB [0] vs) (defBody zcN) zok :=
 yseq (yset 2 (zao op_mod zgm (zab (xix (xp 0) (zab (xI)) hr.units)) (xp 1)) zjQ.nd)
 (yseq (yst 0 (zao op_fdivW zsP (zab (xix (xp 0) (zab (xI)) hr.units)) (xp 1)) (zab (xI)) hr.units)
 (zal (yret (xp 2))))
abbrev zhe:List Str:=["_law_held", "_law_many", "_law_letters", "_law_word", "_law_at", "_law_other", "_law_some", "_law_start", "_law_k"]
theorem zbj:FnScope zhe ["_law_held", "_law_many"] (defScope zb9):=⟨rfl,rfl,rfl,by decide +kernel,rfl,by decide +kernel,by decide +kernel⟩
theorem zmO {f:Addr} {k:Nat}
 (m_range:mg "range" = none)
 (m_len:mg "len" = none)
 (F__law_take:Cal P w K mg base xr k "_law_take" zaq)
 (cdv:Value) (A:Around) (outer:List Env) (s:Shared) (H:Hp) (E:XK) (vs:List V) (hl:vs.length=2) (hr:Room k (A.deeper (envOfC "_law_words" (defScope zb9) s.heap.objs.size f cdv))) :
 SSs (yOf P w K mg base xr zhe "_law_words" (defScope zb9) f cdv A outer s H E) (zcB [0] vs) (defBody zb9) zl8 :=
 yseq (yset 2 (xS) zbj.nd)
 (yseq (yset 3 (xmt yaG ya6 ya7 mt_join ze2 (zab (xS)) (zae (zab (xlc [("_law_k",8)] [8] rfl zbj.nd (xr1 m_range (zab (zao zah zan (zab (xI)) (zab (xc F__law_take hr (zae (xp 0) (zae (zab (xI)) (zaf)))))))) (zdj rfl) (λ_ _ _ _ _=>gn 8 zbj.nd) (λ_ _ _ _ _=>zcR) (λ_ _ _ _ _=>xix (xp 2) (zab (xc F__law_take hr (zae (xp 0) (zae (zab (xI)) (zaf))))) hr.units))) (zaf))) zbj.nd)
 (yseq (yset 4 (xc F__law_take hr (zae (xp 0) (zae (zas (xblt m_len zav zbv yaC (zae (xp 3) (zaf)))) (zaf)))) zbj.nd)
 (yseq (yset 5 (xix (xp 2) (zab (zao op_mod zgm (zab (zao zah zan (zab (zao zah zan (zab (xmt yaG PySem.F.slot_str_index PySem.F.type_str_index mt_sindex zu6 (xp 2) (zae (zab (xix (xp 3) (xp 4) hr.units)) (zaf)))) (zab (xI)))) (zab (xc F__law_take hr (zae (xp 0) (zae (zab (xI)) (zaf))))))) (zab (xI)))) hr.units) zbj.nd)
 (yseq (yset 6 (zbl (zae (zas (xv 3)) (zae (zas (zao zah zan (zab (zao zah zan (zab (xsl (xp 3) (zcp) (zbm (xv 4)))) (xp 5))) (zab (xsl (xp 3) (zbm (zao zah zan (xp 4) (zab (xI)))) (zcp))))) (zae (zas (zao zah zan (xp 3) (xp 5))) (zae (zas (xsl (xp 3) (zcp) (zbm (se_un un_neg zuO (zab (xI)))))) (zaf)))))) zbj.nd)
 (yseq (yset 7 (xc F__law_take hr (zae (xp 0) (zae (zab (xI)) (zaf)))) zbj.nd)
 (zal (yret (zab (xlc [("_law_k",8)] [8] rfl zbj.nd (xr1 m_range (xp 1)) (zdj rfl) (λ_ _ _ _ _=>gn 8 zbj.nd) (λ_ _ _ _ _=>zcR) (λ_ _ _ _ _=>xix (xp 6) (zab (zao op_mod zgm (zab (zao zah zan (xp 7) (xp 8))) (zab (xI)))) hr.units))))))))))
abbrev zhf:List Str:=["_law_held", "_law_pool", "_law_start", "_law_kinds_here", "_law_sorts", "_law_rows", "_law_k", "_law_ports", "_law_p"]
theorem za6:FnScope zhf ["_law_held"] (defScope zca):=⟨rfl,rfl,rfl,by decide +kernel,rfl,by decide +kernel,by decide +kernel⟩
theorem zmP {f:Addr} {k:Nat}
 (m_range:mg "range" = none)
 (m_len:mg "len" = none)
 (m_tuple:mg "tuple" = none)
 (m_sorted:mg "sorted" = none)
 (F__law_take:Cal P w K mg base xr k "_law_take" zaq)
 (F__law_words:Cal P w K mg base xr k "_law_words" zgY)
 (cdv:Value) (A:Around) (outer:List Env) (s:Shared) (H:Hp) (E:XK) (vs:List V) (hl:vs.length=1) (hr:Room k (A.deeper (envOfC "_law_stock" (defScope zca) s.heap.objs.size f cdv))) :
 SSs (yOf P w K mg base xr zhf "_law_stock" (defScope zca) f cdv A outer s H E) (zcB [0] vs) (defBody zca) zma :=
 yseq (yset 1 (zlT [.str "a",.str "add",.str "adder",.str "cut",.str "ring",.str "outer",.str "rule",.str "abcdefgh"] (zbl (zae (zab (xS)) (zae (zab (xS)) (zae (zab (xS)) (zae (zab (xS)) (zae (zab (xS)) (zae (zab (xS)) (zae (zab (xS)) (zae (zab (xS)) (zaf))))))))))) za6.nd)
 (yseq (yset 2 (xc F__law_take hr (zae (xp 0) (zae (zab (xI)) (zaf)))) za6.nd)
 (yseq (zlS 3 [("_law_k",6)] [6] rfl za6.nd (xr1 m_range (zab (xI))) (zdj rfl) (λ_ _ _ _ _=>gn 6 za6.nd) (λ_ _ _ _ _=>zcR) (λ_ _ _ _ _=>xix (xp 1) (zab (zao op_mod zgm (zab (zao zah zan (xp 2) (zab (zao zd7 zgo (zab (xI)) (xp 6))))) (zab (xI)))) hr.units))
 (yseq (yif (tcmp .Eq (zes hr.units) zhV (zab (xc F__law_take hr (zae (xp 0) (zae (zab (xI)) (zaf))))) (zab (xI)))
 (zal (yset 3 (xc F__law_words hr (zae (xp 0) (zae (zab (xI)) (zaf)))) za6.nd))
 (zbr))
 (yseq (yset 4 (xc F__law_words hr (zae (xp 0) (zae (zas (zao zah zan (zab (xI)) (zab (xc F__law_take hr (zae (xp 0) (zae (zab (xI)) (zaf))))))) (zaf)))) za6.nd)
 (yseq (yset 5 (zbl (zaf)) za6.nd)
 (yseq (yfor (passes_of rfl) rfl (xr1 m_range (zab (zao zah zan (zab (xI)) (zab (xc F__law_take hr (zae (xp 0) (zae (zab (xI)) (zaf)))))))) (gn 6 za6.nd)
 (yseq (yset 7 (zbl (zaf)) za6.nd)
 (yseq (yfor (passes_of rfl) rfl (xr1 m_range (zab (zao zah zan (zab (xI)) (zab (xc F__law_take hr (zae (xp 0) (zae (zab (xI)) (zaf)))))))) (gn 8 za6.nd)
 (zal (yex (xm 7 ybz ybN ybO mt_append zho (zae (zas (zeq (zae (zas (xix (xp 4) (zab (xc F__law_take hr (zae (xp 0) (zae (zas (xblt m_len zav zbv yaC (zae (xp 4) (zaf)))) (zaf))))) hr.units)) (zae (zas (xix (zab (xS)) (zab (xc F__law_take hr (zae (xp 0) (zae (zab (xI)) (zaf))))) hr.units)) (zaf))))) (zaf))))))
 (yseq (yif ((zuC (tcmp .NotEq (zc6 hr.units) zfs (xp 5) (zab (zbl (zaf)))) (zr2 (tcmp .Eq (zes hr.units) zhV (zab (xc F__law_take hr (zae (xp 0) (zae (zab (xI)) (zaf))))) (zab (xI))))).st)
 (zal (yset 7 (xix (zab (xix (xp 5) (zab (xI)) hr.units)) (zab (xI)) hr.units) za6.nd))
 (zbr))
 (zal (yex (xm 5 ybz ybN ybO mt_append zho (zae (zas (zeq (zae (zas (xix (xp 3) (xp 6) hr.units)) (zae (zas (xty m_tuple zds zeM boot_tuple (zae (xp 7) (zaf)))) (zaf))))) (zaf)))))))))
 (zal (yret (zab (xty m_tuple zds zeM boot_tuple (zae (zab (xblt m_sorted (zlO hr.units) zoU boot_sorted (zae (xp 5) (zaf)))) (zaf))))))))))))
abbrev zhg:List Str:=["_law_held", "_law_many", "_law_left", "_law_found"]
theorem zfW:FnScope zhg ["_law_held", "_law_many"] (defScope zcb):=⟨rfl,rfl,rfl,by decide +kernel,rfl,by decide +kernel,by decide +kernel⟩
theorem zmQ {f:Addr} {k:Nat}
 (m_list:mg "list" = none)
 (m_range:mg "range" = none)
 (m_len:mg "len" = none)
 (F__law_take:Cal P w K mg base xr k "_law_take" zaq)
 (cdv:Value) (A:Around) (outer:List Env) (s:Shared) (H:Hp) (E:XK) (vs:List V) (hl:vs.length=2) (hr:Room k (A.deeper (envOfC "_law_order" (defScope zcb) s.heap.objs.size f cdv))) :
 SSs (yOf P w K mg base xr zhg "_law_order" (defScope zcb) f cdv A outer s H E) (zcB [0] vs) (defBody zcb) zmd :=
 yseq (yset 2 (xlr1 rfl m_list m_range (xp 1)) zfW.nd)
 (yseq (yset 3 (zbl (zaf)) zfW.nd)
 (yseq (ywhile (passes_of rfl) (tcmp .NotEq (zc6 hr.units) zfs (xp 2) (zab (zbl (zaf))))
 (zal (yex (xm 3 ybz ybN ybO mt_append zho (zae (zas (xm 2 ybz PySem.F.slot_list_pop PySem.F.type_list_pop mt_popAt zsB (zae (zas (xc F__law_take hr (zae (xp 0) (zae (zas (xblt m_len zav zbv yaC (zae (xp 2) (zaf)))) (zaf))))) (zaf)))) (zaf))))))
 (zal (yret (xp 3)))))
abbrev zhh:List Str:=["_law_e", "_law_some"]
theorem zfX:FnScope zhh ["_law_e"] (defScope zbP):=⟨rfl,rfl,rfl,by decide +kernel,rfl,by decide +kernel,by decide +kernel⟩
theorem zmR {f:Addr} {k:Nat}
 (m_isinstance:mg "isinstance" = none)
 (xs:Xs K mg xr nsX npX)
 (m_ValueError:mg "ValueError" = none)
 (cdv:Value) (A:Around) (outer:List Env) (s:Shared) (H:Hp) (E:XK) (p:Addr×Obj) (x:Xn) (hin:InF K nsX x p.1 p.2) (hr:L2H.RoomH k (A.deeper (envOfC "_law_kinds" (defScope zbP) s.heap.objs.size f cdv))) :
 SSs (yE P w K mg base xr zhh "_law_kinds" (defScope zbP) f cdv A outer s H E p) (zcB [] [V.ref p.1]) (defBody zbP) (zgf (p.1,p.2.dict) x) :=
 yseq (yset 1 (zbl (zae (zas (xisF xs m_isinstance yaa hin (by decide +kernel))) (zae (zas (xisF xs m_isinstance yaa hin (by decide +kernel))) (zae (zas (xisF xs m_isinstance yaa hin (by decide +kernel))) (zae (zas (xisF xs m_isinstance yaa hin (by decide +kernel))) (zaf)))))) zfX.nd)
 (yseq (yset 1 (zao zah zan (xp 1) (zab (zbl (zae (zas (xisF xs m_isinstance yaa hin (by decide +kernel))) (zae (zas (xisF xs m_isinstance yaa hin (by decide +kernel))) (zae (zas (xisF xs m_isinstance yaa hin (by decide +kernel))) (zae (zas (xisF xs m_isinstance yaa hin (by decide +kernel))) (zaf)))))))) zfX.nd)
 (zal (yret (zab (zao zah zan (xp 1) (zab (zbl (zae (zas (xisF xs m_isinstance yaa hin (by decide +kernel))) (zae (zas (xisVF xs m_isinstance m_ValueError yaa hin)) (zaf))))))))))
abbrev zhi:List Str:=["_law_texts", "_law_found", "_law_kinds_here", "_law_field", "_law_e"]
theorem zbk:FnScope zhi ["_law_texts"] (defScope zcc):=⟨rfl,rfl,rfl,by decide +kernel,rfl,by decide +kernel,by decide +kernel⟩
theorem zmS {f:Addr} {k:Nat}
 (xs:Xs K mg xr nsX npX)
 (nf:NoF K nsX fsX)
 (F_read_stock:Cal P w K mg base xr k "read_stock" zeA)
 (F__law_kinds:CalF P w K mg base nsX k "_law_kinds" zbF)
 (cdv:Value) (A:Around) (outer:List Env) (s:Shared) (H:Hp) (E:XK) (vs:List V) (hl:vs.length=1) (hr:Room k (A.deeper (envOfC "_law_asked" (defScope zcc) s.heap.objs.size f cdv))) :
 SSs (yOf P w K mg base xr zhi "_law_asked" (defScope zcc) f cdv A outer s H E) (zcB [] vs) (defBody zcc) zfP :=
 yseq (yset 1 (xN) zbk.nd)
 (yseq (yset 2 (zbl (zaf)) zbk.nd)
 (yseq (yset 3 (xN) zbk.nd)
 (yseq (ytryL xs zbk.nd (λW pn xe tk _=>zal (yset 1 (xc F_read_stock hr (zae (zas (xv 0)) (zaf)) tk) zbk.nd))
 (.cons (by decide +kernel) rfl (by decide) (λa oe x pn hin=>yseq (yset 2 (xcF F__law_kinds (zvv hr) yaa hin) zbk.nd) (zal (yset 3 (xatN xs nf (by decide +kernel) yaa hin) zbk.nd))) (λa x=>zkL (zfy (ze4 zcv)) (zfy zjb)) (.cons (by decide +kernel) rfl (by decide) (λa oe x pn hin=>yseq (yset 2 (xcF F__law_kinds (zvv hr) yaa hin) zbk.nd) (zal (yset 3 (xatN xs nf (by decide +kernel) yaa hin) zbk.nd))) (λa x=>zkL (zfy (ze4 zcv)) (zfy zjb)) (.cons (by decide +kernel) rfl (by decide) (λa oe x pn hin=>zal (yset 2 (xcF F__law_kinds (zvv hr) yaa hin) zbk.nd)) (λa x=>zfy (ze4 zcv)) (.nil)))))
 (zal (yret (zab (zeq (zae (zas (xv 1)) (zae (zas (xv 2)) (zae (zas (xv 3)) (zaf)))))))))))
abbrev zik:List Str:=["_law_row_here", "_law_spec"]
theorem zgI:FnScope zik ["_law_row_here"] (defScope zcO):=⟨rfl,rfl,rfl,by decide +kernel,rfl,by decide +kernel,by decide +kernel⟩
theorem znN {f:Addr} {k:Nat}
 (cdv:Value) (A:Around) (outer:List Env) (s:Shared) (H:Hp) (E:XK) (vs:List V) (hl:vs.length=1) (hr:Room k (A.deeper (envOfC "_law_text" (defScope zcO) s.heap.objs.size f cdv))) :
 SSs (yOf P w K mg base xr zik "_law_text" (defScope zcO) f cdv A outer s H E) (zcB [] vs) (defBody zcO) zkt :=
 zal (yret (zab (xmt yaG ya6 ya7 mt_join ze2 (zab (xS)) (zae (zab (zao zah zan (zab (zbl (zae (zas (xix (xp 0) (zab (xI)) hr.units)) (zae (zab (xS)) (zaf))))) (zab (xlc [("_law_spec",1)] [1] rfl zgI.nd (zdI (xix (xp 0) (zab (xI)) hr.units)) (zdj rfl) (λ_ _ _ _ _=>gn 1 zgI.nd) (λ_ _ _ _ _=>zcR) (λ_ _ _ _ _=>zao zah zan (zab (xix (xp 1) (zab (xI)) hr.units)) (zab (xix (xp 1) (zab (xI)) hr.units))))))) (zaf)))))
abbrev zeW:List Str:=["_law_held", "_law_text_here", "_law_odd", "_law_sign", "_law_at", "_law_words_here", "_law_place", "_law_word", "_law_some"]
theorem zaN:FnScope zeW ["_law_held", "_law_text_here"] (defScope zbq):=⟨rfl,rfl,rfl,by decide +kernel,rfl,by decide +kernel,by decide +kernel⟩
theorem ziw {f:Addr} {k:Nat}
 (m_len:mg "len" = none)
 (F__law_take:Cal P w K mg base xr k "_law_take" zaq)
 (cdv:Value) (A:Around) (outer:List Env) (s:Shared) (H:Hp) (E:XK) (vs:List V) (hl:vs.length=2) (hr:Room k (A.deeper (envOfC "_law_bent_text" (defScope zbq) s.heap.objs.size f cdv))) :
 SSs (yOf P w K mg base xr zeW "_law_bent_text" (defScope zbq) f cdv A outer s H E) (zcB [0] vs) (defBody zbq) zg3 :=
 yseq (yset 2 (zao zah zan (zab (xS)) (xp 1)) zaN.nd)
 (yseq (yset 3 (xix (xp 2) (zab (xc F__law_take hr (zae (xp 0) (zae (zas (xblt m_len zav zbv yaC (zae (xp 2) (zaf)))) (zaf))))) hr.units) zaN.nd)
 (yseq (yset 4 (xc F__law_take hr (zae (xp 0) (zae (zas (zao zah zan (zab (xblt m_len zav zbv yaC (zae (xp 1) (zaf)))) (zab (xI)))) (zaf)))) zaN.nd)
 (yseq (yset 5 (xmt yaG ybB ybC mt_split zgU (xp 1) (zae (zab (xS)) (zaf))) zaN.nd)
 (yseq (yset 6 (xc F__law_take hr (zae (xp 0) (zae (zas (xblt m_len zav zbv yaC (zae (xp 5) (zaf)))) (zaf)))) zaN.nd)
 (yseq (yset 7 (xix (zab (zlT [.str "",.str "=",.str "+n",.str "-net",.str "n",.str "+",.str "+N",.str "++n",.str "*n",.str "add",.str "abcdefghi",.str "+abcdefghi"] (zbl (zae (zab (xS)) (zae (zab (xS)) (zae (zab (xS)) (zae (zab (xS)) (zae (zab (xS)) (zae (zab (xS)) (zae (zab (xS)) (zae (zab (xS)) (zae (zab (xS)) (zae (zab (xS)) (zae (zab (xS)) (zae (zab (xS)) (zaf)))))))))))))))) (zab (xc F__law_take hr (zae (xp 0) (zae (zab (xI)) (zaf))))) hr.units) zaN.nd)
 (yseq (yset 8 (zbl (zae (zas (zao zah zan (zab (zao zah zan (zab (xsl (xp 1) (zcp) (zbm (xv 4)))) (xp 3))) (zab (xsl (xp 1) (zbm (xv 4)) (zcp))))) (zae (zas (zao zah zan (zab (xsl (xp 1) (zcp) (zbm (xv 4)))) (zab (xsl (xp 1) (zbm (zao zah zan (xp 4) (zab (xI)))) (zcp))))) (zae (zas (zao zah zan (zab (zao zah zan (zab (xsl (xp 1) (zcp) (zbm (xv 4)))) (xp 3))) (zab (xsl (xp 1) (zbm (zao zah zan (xp 4) (zab (xI)))) (zcp))))) (zae (zas (xsl (xp 1) (zcp) (zbm (xv 4)))) (zaf)))))) zaN.nd)
 (yseq (yset 8 (zao zah zan (xp 8) (zab (zbl (zae (zas (xmt yaG ya6 ya7 mt_join ze2 (zab (xS)) (zae (zab (zao zah zan (zab (zao zah zan (zab (xsl (xp 5) (zcp) (zbm (xv 6)))) (zab (zbl (zae (zas (xv 7)) (zaf)))))) (zab (xsl (xp 5) (zbm (zao zah zan (xp 6) (zab (xI)))) (zcp))))) (zaf)))) (zae (zas (xmt yaG ya6 ya7 mt_join ze2 (zab (xS)) (zae (zab (zao zah zan (zab (xsl (xp 5) (zcp) (zbm (xv 6)))) (zab (xsl (xp 5) (zbm (zao zah zan (xp 6) (zab (xI)))) (zcp))))) (zaf)))) (zaf)))))) zaN.nd)
 (yseq (yset 8 (zao zah zan (xp 8) (zab (zbl (zae (zas (xmt yaG ya6 ya7 mt_join ze2 (zab (xS)) (zae (zab (zao zah zan (zab (zao zah zan (zab (xsl (xp 5) (zcp) (zbm (xv 6)))) (zab (zbl (zae (zas (xv 7)) (zaf)))))) (zab (xsl (xp 5) (zbm (xv 6)) (zcp))))) (zaf)))) (zae (zas (xmt yaG ya6 ya7 mt_join ze2 (zab (xS)) (zae (zab (xsl (xp 5) (zcp) (zbm (xI)))) (zaf)))) (zae (zas (zao zah zan (xp 1) (zab (xS)))) (zaf))))))) zaN.nd)
 (zal (yret (zab (xix (zab (zao zah zan (xp 8) (zab (zbl (zae (zas (zao zah zan (xp 1) (zab (xS)))) (zae (zab (xS)) (zaf))))))) (zab (xc F__law_take hr (zae (xp 0) (zae (zab (xI)) (zaf))))) hr.units))))))))))))
abbrev zil:List Str:=["_law_held", "_law_texts", "_law_way", "_law_at", "_law_again", "_law_more", "_law_sign", "_law_text_here"]
theorem zco:FnScope zil ["_law_held", "_law_texts"] (defScope zcP):=⟨rfl,rfl,rfl,by decide +kernel,rfl,by decide +kernel,by decide +kernel⟩
theorem znO {f:Addr} {k:Nat}
 (m_len:mg "len" = none)
 (F__law_take:Cal P w K mg base xr k "_law_take" zaq)
 (F__law_bent_text:Cal P w K mg base xr k "_law_bent_text" zcx)
 (cdv:Value) (A:Around) (outer:List Env) (s:Shared) (H:Hp) (E:XK) (vs:List V) (hl:vs.length=2) (hr:Room k (A.deeper (envOfC "_law_bent" (defScope zcP) s.heap.objs.size f cdv))) :
 SSs (yOf P w K mg base xr zil "_law_bent" (defScope zcP) f cdv A outer s H E) (zcB [0] vs) (defBody zcP) zgg :=
 yseq (yset 2 (xc F__law_take hr (zae (xp 0) (zae (zab (xI)) (zaf)))) zco.nd)
 (yseq (yset 3 (xc F__law_take hr (zae (xp 0) (zae (zas (xblt m_len zav zbv yaC (zae (xp 1) (zaf)))) (zaf)))) zco.nd)
 (yseq (yif (tcmp .Lt (zbd hr.units .lt) (zce .lt) (xp 2) (zab (xI)))
 (zal (yret (zab (zao zah zan (zab (zao zah zan (zab (xsl (xp 1) (zcp) (zbm (xv 3)))) (zab (zbl (zae (zas (xc F__law_bent_text hr (zae (xp 0) (zae (zas (xix (xp 1) (xp 3) hr.units)) (zaf))))) (zaf)))))) (zab (xsl (xp 1) (zbm (zao zah zan (xp 3) (zab (xI)))) (zcp)))))))
 (zbr))
 (yseq (yif (tcmp .Eq (zes hr.units) zhV (xp 2) (zab (xI)))
 (yseq (yset 4 (xix (zab (zbl (zae (zas (xix (xp 1) (xp 3) hr.units)) (zae (zas (zao zah zan (zab (xix (xp 1) (xp 3) hr.units)) (zab (xS)))) (zae (zas (zao zah zan (zab (xix (zab (xmt yaG ybB ybC mt_split zgU (zab (xix (xp 1) (xp 3) hr.units)) (zae (zab (xS)) (zaf)))) (zab (xI)) hr.units)) (zab (xS)))) (zaf)))))) (zab (xc F__law_take hr (zae (xp 0) (zae (zab (xI)) (zaf))))) hr.units) zco.nd)
 (zal (yret (zab (zao zah zan (zab (zao zah zan (zab (xsl (xp 1) (zcp) (zbm (xc F__law_take hr (zae (xp 0) (zae (zas (zao zah zan (zab (xblt m_len zav zbv yaC (zae (xp 1) (zaf)))) (zab (xI)))) (zaf))))))) (zab (zbl (zae (zas (xv 4)) (zaf)))))) (xp 1))))))
 (zbr))
 (yseq (yif (tcmp .Eq (zes hr.units) zhV (xp 2) (zab (xI)))
 (yseq (zlS 5 [("_law_sign",6)] [6] rfl zco.nd (zdI (xsl (zab (xS)) (zcp) (zbm (zao op_sub zp4 (zab (xix (zab (zlT [.int 8,.int 9] (zbl (zae (zab (xI)) (zae (zab (xI)) (zaf)))))) (zab (xc F__law_take hr (zae (xp 0) (zae (zab (xI)) (zaf))))) hr.units)) (zab (xblt m_len zav zbv yaC (zae (xp 1) (zaf)))))))) (zdj rfl) (λ_ _ _ _ _=>gn 6 zco.nd) (λ_ _ _ _ _=>zcR) (λ_ _ _ _ _=>zao zah zan (zab (zao zah zan (zab (xS)) (xp 6))) (zab (xS))))
 (zal (yret (zab (zuD (tcmp .Eq (zes hr.units) zhV (zab (xc F__law_take hr (zae (xp 0) (zae (zab (xI)) (zaf))))) (zab (xI))) (zao zah zan (xp 1) (xp 5)) (zao zah zan (xp 5) (xp 1)))))))
 (zbr))
 (zal (yret (zab (xix (zab (zbl (zae (zas (zbl (zaf))) (zae (zas (xsl (xp 1) (zbm (xv 3)) (zcp))) (zae (zas (zao zah zan (xp 1) (xp 1))) (zae (zas (xlc [("_law_text_here",7)] [7] rfl zco.nd (zdI (xv 1)) (zdj rfl) (λ_ _ _ _ _=>gn 7 zco.nd) (λ_ _ _ _ _=>zcR) (λ_ _ _ _ _=>xc F__law_bent_text hr (zae (xp 0) (zae (zas (xv 7)) (zaf)))))) (zaf))))))) (zab (xc F__law_take hr (zae (xp 0) (zae (zab (xI)) (zaf))))) hr.units))))))))
abbrev zim:List Str:=["_law_word", "_law_sign"]
theorem zgJ:FnScope zim ["_law_word"] (defScope zcQ):=⟨rfl,rfl,rfl,by decide +kernel,rfl,by decide +kernel,by decide +kernel⟩
theorem znP {f:Addr} {k:Nat}
 (m_len:mg "len" = none)
 (cdv:Value) (A:Around) (outer:List Env) (s:Shared) (H:Hp) (E:XK) (vs:List V) (hl:vs.length=1) (hr:Room k (A.deeper (envOfC "_law_name" (defScope zcQ) s.heap.objs.size f cdv))) :
 SSs (yOf P w K mg base xr zim "_law_name" (defScope zcQ) f cdv A outer s H E) (zcB [] vs) (defBody zcQ) zmo :=
 zal (yret (zab (ztI (xchn .LtE .LtE (zbd hr.units .le) (zbd hr.units .le) (zce .le) (zce .le) (zab (xI)) (zab (xblt m_len zav zbv yaC (zae (xp 0) (zaf)))) (zab (xI))) (ztJ (xcmp .Eq (zes hr.units) zhV (zab (xblt m_len zav zbv yaC (zae (zab (xlc [("_law_sign",1)] [1] rfl zgJ.nd (zdI (xv 0)) (zdj rfl) (λ_ _ _ _ _=>gn 1 zgJ.nd) (λ_ _ _ _ _=>zmX (tcmp .NotIn (ze0 hr.units true) (ziX true) (xp 1) (zab (xS)))) (λ_ _ _ _ _=>xv 1))) (zaf)))) (zab (xI)))))))
abbrev zjR:List Str:=["_law_text_here", "_law_words_here", "_law_word"]
theorem zeX:FnScope zjR ["_law_text_here"] (defScope zdm):=⟨rfl,rfl,rfl,by decide +kernel,rfl,by decide +kernel,by decide +kernel⟩
theorem zpC {f:Addr} {k:Nat}
 (m_len:mg "len" = none)
 (m_tuple:mg "tuple" = none)
 (F__law_name:Cal P w K mg base xr k "_law_name" zeR)
 (cdv:Value) (A:Around) (outer:List Env) (s:Shared) (H:Hp) (E:XK) (vs:List V) (hl:vs.length=1) (hr:Room k (A.deeper (envOfC "_law_row" (defScope zdm) s.heap.objs.size f cdv))) :
 SSs (yOf P w K mg base xr zjR "_law_row" (defScope zdm) f cdv A outer s H E) (zcB [] vs) (defBody zdm) zmq :=
 yseq (yset 1 (xmt yaG ybB ybC mt_split zgU (xp 0) (zae (zab (xS)) (zaf))) zeX.nd)
 (yseq (yif ((zdH (zc0 (tchn .LtE .LtE (zbd hr.units .le) (zbd hr.units .le) (zce .le) (zce .le) (zab (xI)) (zab (xblt m_len zav zbv yaC (zae (xp 1) (zaf)))) (zab (xI)))) (zdH (tcmp .NotEq (zc6 hr.units) zfs (zab (xix (xp 1) (zab (xI)) hr.units)) (zab (xS))) (zdP (zc0 (ttru (zab (xc F__law_name hr (zae (zas (xix (xp 1) (zab (xI)) hr.units)) (zaf))))))))).st)
 (zal (yret (zab (xN))))
 (zbr))
 (yseq (yfor (passes_of rfl) rfl (zdI (xsl (xp 1) (zbm (xI)) (zcp))) (gn 2 zeX.nd)
 (zal (yif ((zdH (tcmp .NotIn (ze0 hr.units true) (ziX true) (zab (xsl (xp 2) (zcp) (zbm (xI)))) (zab (zlT [.str "+",.str "-"] (zbl (zae (zab (xS)) (zae (zab (xS)) (zaf))))))) (zdP (zc0 (ttru (zab (xc F__law_name hr (zae (zas (xsl (xp 2) (zbm (xI)) (zcp))) (zaf)))))))).st)
 (zal (yret (zab (xN))))
 (zbr))))
 (zal (yret (zab (zeq (zae (zas (xix (xp 1) (zab (xI)) hr.units)) (zae (zas (xty m_tuple zds zeM boot_tuple (zae (zab (xlc [("_law_word",2)] [2] rfl zeX.nd (zdI (xsl (xp 1) (zbm (xI)) (zcp))) (zdj rfl) (λ_ _ _ _ _=>gn 2 zeX.nd) (λ_ _ _ _ _=>zcR) (λ_ _ _ _ _=>zeq (zae (zas (xsl (xp 2) (zbm (xI)) (zcp))) (zae (zas (xsl (xp 2) (zcp) (zbm (xI)))) (zaf)))))) (zaf)))) (zaf)))))))))
abbrev zjS:List Str:=["_law_texts", "_law_rows", "_law_bad", "_law_kinds_here", "_law_again", "_law_text_here", "_law_k", "_law_row_here"]
theorem zbO:FnScope zjS ["_law_texts"] (defScope zdn):=⟨rfl,rfl,rfl,by decide +kernel,rfl,by decide +kernel,by decide +kernel⟩
theorem zpD {f:Addr} {k:Nat}
 (m_range:mg "range" = none)
 (m_len:mg "len" = none)
 (m_tuple:mg "tuple" = none)
 (m_sorted:mg "sorted" = none)
 (F__law_row:Cal P w K mg base xr k "_law_row" zg4)
 (cdv:Value) (A:Around) (outer:List Env) (s:Shared) (H:Hp) (E:XK) (vs:List V) (hl:vs.length=1) (hr:Room k (A.deeper (envOfC "_law_due" (defScope zdn) s.heap.objs.size f cdv))) :
 SSs (yOf P w K mg base xr zjS "_law_due" (defScope zdn) f cdv A outer s H E) (zcB [] vs) (defBody zdn) zfS :=
 yseq (yset 1 (xlc [("_law_text_here",5)] [5] rfl zbO.nd (zdI (xv 0)) (zdj rfl) (λ_ _ _ _ _=>gn 5 zbO.nd) (λ_ _ _ _ _=>zcR) (λ_ _ _ _ _=>xc F__law_row hr (zae (zas (xv 5)) (zaf)))) zbO.nd)
 (yseq (zlS 2 [("_law_k",6)] [6] rfl zbO.nd (xr1 m_range (zab (xblt m_len zav zbv yaC (zae (xp 1) (zaf))))) (zdj rfl) (λ_ _ _ _ _=>gn 6 zbO.nd) (λ_ _ _ _ _=>zmX (tcmp .Is op_isN zuT (zab (xix (xp 1) (xp 6) hr.units)) (zab (xN)))) (λ_ _ _ _ _=>xv 6))
 (yseq (yif (tcmp .NotEq (zc6 hr.units) zfs (xp 2) (zab (zbl (zaf))))
 (zal (yret (zab (zeq (zae (zab (xN)) (zae (zab (xI)) (zae (zas (xix (xp 2) (zab (xI)) hr.units)) (zaf))))))))
 (zbr))
 (yseq (yset 3 (xlc [("_law_row_here",7)] [7] rfl zbO.nd (zdI (xv 1)) (zdj rfl) (λ_ _ _ _ _=>gn 7 zbO.nd) (λ_ _ _ _ _=>zcR) (λ_ _ _ _ _=>xix (xp 7) (zab (xI)) hr.units)) zbO.nd)
 (yseq (zlS 4 [("_law_k",6)] [6] rfl zbO.nd (xr1 m_range (zab (xblt m_len zav zbv yaC (zae (xp 1) (zaf))))) (zdj rfl) (λ_ _ _ _ _=>gn 6 zbO.nd) (λ_ _ _ _ _=>zmX (tcmp .In (ze0 hr.units false) (ziX false) (zab (xix (xp 3) (xp 6) hr.units)) (zab (xsl (xp 3) (zcp) (zbm (xv 6)))))) (λ_ _ _ _ _=>xv 6))
 (yseq (yif (tcmp .NotEq (zc6 hr.units) zfs (xp 4) (zab (zbl (zaf))))
 (zal (yret (zab (zeq (zae (zab (xN)) (zae (zab (xI)) (zae (zas (xix (xp 3) (zab (xix (xp 4) (zab (xI)) hr.units)) hr.units)) (zaf))))))))
 (zbr))
 (yseq (yif (zc0 (tchn .LtE .LtE (zbd hr.units .le) (zbd hr.units .le) (zce .le) (zce .le) (zab (xI)) (zab (xblt m_len zav zbv yaC (zae (xp 1) (zaf)))) (zab (xI))))
 (zal (yret (zab (zqr (.tup [.non,.int 2,.non]) (zeq (zae (zab (xN)) (zae (zab (xI)) (zae (zab (xN)) (zaf)))))))))
 (zbr))
 (zal (yret (zab (zeq (zae (zas (xty m_tuple zds zeM boot_tuple (zae (zab (xblt m_sorted (zkk hr.units) zja boot_sorted (zae (xp 1) (zaf)))) (zaf)))) (zae (zab (xN)) (zae (zab (xN)) (zaf))))))))))))))
abbrev zuw:List Str:=["_law_script", "_law_k", "_law_held", "_law_stock_here", "_law_row_here", "_law_told", "_law_texts", "_law_bent_here", "_law_some", "_law_handed", "_law_found", "_law_which", "_law_field", "_law_due_here", "_law_n"]
theorem zfq:FnScope zuw ["_law_script"] (defScope zmU):=⟨rfl,rfl,rfl,by decide +kernel,rfl,by decide +kernel,by decide +kernel⟩
theorem s_law {f:Addr} {k:Nat}
 (m_range:mg "range" = none)
 (m_max:mg "max" = none)
 (m_len:mg "len" = none)
 (m_isinstance:mg "isinstance" = none)
 (m_str:mg "str" = none)
 (m_list:mg "list" = none)
 (m_bool:mg "bool" = none)
 (F__law_digits:Cal P w K mg base xr k "_law_digits" zd3)
 (F__law_stock:Cal P w K mg base xr k "_law_stock" zgZ)
 (F_show_kind:Cal P w K mg base xr k "show_kind" zfb)
 (F__law_text:Cal P w K mg base xr k "_law_text" zd4)
 (F__law_order:Cal P w K mg base xr k "_law_order" zg0)
 (F__law_bent:Cal P w K mg base xr k "_law_bent" zdE)
 (F__law_due:Cal P w K mg base xr k "_law_due" zdi)
 (F__law_asked:Cal P w K mg base xr k "_law_asked" zdg)
 (cdv:Value) (A:Around) (outer:List Env) (s:Shared) (H:Hp) (E:XK) (vs:List V) (hl:vs.length=1) (hr:Room k (A.deeper (envOfC "law" (defScope zmU) s.heap.objs.size f cdv))) :
 SSs (yOf P w K mg base xr zuw "law" (defScope zmU) f cdv A outer s H E) (zcB [] vs) (defBody zmU) zbA :=
 yseq (yfor (passes_of rfl) rfl (xr3 m_range (zab (xI)) (zab (xblt m_max (call_max2 rfl) (snd_mx imax) boot_max (zae (zab (xI)) (zae (zab (xblt m_len zav zbv yaC (zae (xp 0) (zaf)))) (zaf))))) (zab (xI))) (gn 1 zfq.nd)
 (yseq (yset 2 (xc F__law_digits hr (zae (zas (xv 0)) (zae (zas (xv 1)) (zaf)))) zfq.nd)
 (yseq (yset 3 (xc F__law_stock hr (zae (xp 2) (zaf))) zfq.nd)
 (yseq (yfor (passes_of rfl) rfl (zdI (xv 3)) (gn 4 zfq.nd)
 (yseq (yset 5 (xc F_show_kind hr (zae (zas (xix (xp 4) (zab (xI)) hr.units)) (zae (zas (xix (xp 4) (zab (xI)) hr.units)) (zaf)))) zfq.nd)
 (zal (yif ((zdH (zc0 (ttru (zab (xblt m_isinstance call_isi zft boot_isinstance (zae (xp 5) (zae (zab (xTy m_str boot_str)) (zaf))))))) (zdP (tcmp .NotEq (zc6 hr.units) zfs (xp 5) (zab (xc F__law_text hr (zae (zas (xv 4)) (zaf))))))).st)
 (zal (yret (zab (xB))))
 (zbr)))))
 (yseq (zlS 6 [("_law_n",14)] [14] rfl zfq.nd (zdI (xc F__law_order hr (zae (xp 2) (zae (zas (xblt m_len zav zbv yaC (zae (xp 3) (zaf)))) (zaf))))) (zdj rfl) (λ_ _ _ _ _=>gn 14 zfq.nd) (λ_ _ _ _ _=>zcR) (λ_ _ _ _ _=>xc F__law_text hr (zae (zas (xix (xp 3) (xp 14) hr.units)) (zaf))))
 (yseq (yset 7 (xc F__law_bent hr (zae (zab (xc F__law_digits hr (zae (zas (xv 0)) (zae (zas (zao zah zan (xp 1) (zab (xI)))) (zaf))))) (zae (zas (xv 6)) (zaf)))) zfq.nd)
 (zal (yfor (passes_of rfl) rfl (zdI (zbl (zae (zas (xv 6)) (zae (zas (xv 7)) (zaf))))) (gn 8 zfq.nd)
 (yseq (yset 9 (xty m_list call_list_of zsu boot_list (zae (xp 8) (zaf))) zfq.nd)
 (yseq (yasg (xc F__law_due hr (zae (zas (xv 8)) (zaf))) (gtup rfl (zm2 (gn 10 zfq.nd) (zm2 (gn 11 zfq.nd) (zm2 (gn 12 zfq.nd) (gnil))))))
 (yseq (yset 5 (xc F__law_asked hr (zae (zas (xv 9)) (zaf))) zfq.nd)
 (yseq (yset 13 (zuD (tcmp .IsNot op_notN zsn (xp 11) (zab (xN))) (zao zah zan (zab (xlc [("_law_n",14)] [14] rfl zfq.nd (xr1 m_range (zab (xI))) (zdj rfl) (λ_ _ _ _ _=>gn 14 zfq.nd) (λ_ _ _ _ _=>zcR) (λ_ _ _ _ _=>xcmp .Eq (zes hr.units) zhV (xp 14) (xp 11)))) (zab (zlT [.bl true] (zbl (zae (zab (xB)) (zaf)))))) (zbl (zaf))) zfq.nd)
 (zal (yif ((zdH (tcmp .NotEq (zc6 hr.units) zfs (xp 5) (zab (zeq (zae (zas (xv 10)) (zae (zas (xv 13)) (zae (zas (xv 12)) (zaf))))))) (zdH (ttru (zab (xblt m_isinstance call_isi zft boot_isinstance (zae (zab (xix (xp 5) (zab (xI)) hr.units)) (zae (zab (xTy m_bool boot_bool)) (zaf)))))) (zdP (tcmp .NotEq (zc6 hr.units) zfs (xp 9) (xp 8))))).st)
 (zal (yret (zab (xB))))
 (zbr)))))))))))))))
 (zal (yret (zab (xB))))
theorem zkD:FnScope ["self", "at"] ["self", "at"] (defScope zcZ):=⟨rfl,rfl,rfl,by decide +kernel,rfl,by decide +kernel,by decide +kernel⟩
theorem zpE {f:Addr} (ba:BaI K mg (He.ga K "WeaveError")) (cdv:Value) (A:Around) (outer:List Env) (s:Shared) (H:Hp) (E:XK) :
 PSs (cxOf (L2.CX P w) P w K mg base ["self", "at"] "NoText.__init__" (defScope zcZ) f cdv A outer s H E) (defBody zcZ) (tSeq (tDrop (tVeI K (tCons (tVar 0) (tCons (tC (.str "no text of that form")) tNil)))) (tOst K "at" (tVar 0) (tVar 1))) :=
 pss_cons (ps_expr (zgT rfl ba (pa_cons (pe_var rfl (.inl rfl)) (pa_cons pe_str pa_nil rfl) rfl))) (pss_one (ps_ost (pe_var rfl (.inl rfl)) (pe_var rfl (.inl rfl))))
theorem znQ {f:Addr} (ba:BaI K mg (He.ga K "WeaveError")) (cdv:Value) (A:Around) (outer:List Env) (s:Shared) (H:Hp) (E:XK) (p:Addr×Obj) :
 PSs (L2H.cxH (L2.CX P w) P w K mg base ["self", "at"] "NoText.__init__" (defScope zcZ) f cdv A outer s H E p) (defBody zcZ) (tSeq (tDrop (tVeI K (tCons (tVar 0) (tCons (tC (.str "no text of that form")) tNil)))) (tOst K "at" (tVar 0) (tVar 1))) :=
 pss_cons (ps_expr (zgT rfl ba (pa_cons (pe_var rfl (.inl rfl)) (pa_cons pe_str pa_nil rfl) rfl))) (pss_one (ps_ost (pe_var rfl (.inl rfl)) (pe_var rfl (.inl rfl))))
theorem zmT:FnScope ["self", "name"] ["self", "name"] (defScope zdF):=⟨rfl,rfl,rfl,by decide +kernel,rfl,by decide +kernel,by decide +kernel⟩
theorem zrW {f:Addr} (ba:BaI K mg (He.ga K "WeaveError")) (cdv:Value) (A:Around) (outer:List Env) (s:Shared) (H:Hp) (E:XK) :
 PSs (cxOf (L2.CX P w) P w K mg base ["self", "name"] "Twice.__init__" (defScope zdF) f cdv A outer s H E) (defBody zdF) (tSeq (tDrop (tVeI K (tCons (tVar 0) (tCons (tC (.str "a name that comes again")) tNil)))) (tOst K "name" (tVar 0) (tVar 1))) :=
 pss_cons (ps_expr (zgT rfl ba (pa_cons (pe_var rfl (.inl rfl)) (pa_cons pe_str pa_nil rfl) rfl))) (pss_one (ps_ost (pe_var rfl (.inl rfl)) (pe_var rfl (.inl rfl))))
theorem zpF {f:Addr} (ba:BaI K mg (He.ga K "WeaveError")) (cdv:Value) (A:Around) (outer:List Env) (s:Shared) (H:Hp) (E:XK) (p:Addr×Obj) :
 PSs (L2H.cxH (L2.CX P w) P w K mg base ["self", "name"] "Twice.__init__" (defScope zdF) f cdv A outer s H E p) (defBody zdF) (tSeq (tDrop (tVeI K (tCons (tVar 0) (tCons (tC (.str "a name that comes again")) tNil)))) (tOst K "name" (tVar 0) (tVar 1))) :=
 pss_cons (ps_expr (zgT rfl ba (pa_cons (pe_var rfl (.inl rfl)) (pa_cons pe_str pa_nil rfl) rfl))) (pss_one (ps_ost (pe_var rfl (.inl rfl)) (pe_var rfl (.inl rfl))))
end
theorem ob_eq (s:PySem.W.SharedT):ob s=hk.obs s.abs:=zsX (HandSHeadRun.getT_eq s)
theorem facts {w:World} {K:PySem.W.Frag} {h:Heap} {mg:Str->Option Value} {f:Addr} (X:K.In h) (G:h.Ns mainGlobals mg) (hfa:mg ("law" : Str)=some (.ref f)) (c:He.SaysD fas fns K) (cx:xsFB nsX npX fsX xdX K=true) :
 ∃ fd:FuncData,(∀ (s:Shared) (v:Value),BindsTo s fd ⟨[v],[]⟩ [("_law_script",v)])/\∀ base:Heap,K.In base->base.Ns mainGlobals mg->FnOk (PySem.Challenge.rw_weave_k06_stocks_as_texts).prog w K mg base (L2.CX (PySem.Challenge.rw_weave_k06_stocks_as_texts).prog w) 7 f fd ["_law_script"] (spOf K (xrT K nsX) zcX):=by
 obtain ⟨fd_is_name,D_is_name⟩:=c.def_ 0 (d:=zlC) rfl
 obtain ⟨fd_is_spec,D_is_spec⟩:=c.def_ 1 (d:=zlD) rfl
 obtain ⟨fd_is_kind_row,D_is_kind_row⟩:=c.def_ 2 (d:=zgK) rfl
 obtain ⟨fd_is_stock,D_is_stock⟩:=c.def_ 3 (d:=zj7) rfl
 obtain ⟨fd_read_spec,D_read_spec⟩:=c.def_ 4 (d:=ziG) rfl
 obtain ⟨fd_show_kind,D_show_kind⟩:=c.def_ 5 (d:=ziH) rfl
 obtain ⟨fd_read_kind,D_read_kind⟩:=c.def_ 6 (d:=ziI) rfl
 obtain ⟨fd_read_stock,D_read_stock⟩:=c.def_ 7 (d:=zhP) rfl
 obtain ⟨fd__law_digits,D__law_digits⟩:=c.def_ 8 (d:=zgL) rfl
 obtain ⟨fd__law_take,D__law_take⟩:=c.def_ 9 (d:=ziJ) rfl
 obtain ⟨fd__law_words,D__law_words⟩:=c.def_ 10 (d:=zhQ) rfl
 obtain ⟨fd__law_stock,D__law_stock⟩:=c.def_ 11 (d:=zhR) rfl
 obtain ⟨fd__law_order,D__law_order⟩:=c.def_ 12 (d:=zhS) rfl
 obtain ⟨fd__law_kinds,D__law_kinds⟩:=c.def_ 13 (d:=zhT) rfl
 obtain ⟨fd__law_asked,D__law_asked⟩:=c.def_ 14 (d:=zhU) rfl
 obtain ⟨fd__law_text,D__law_text⟩:=c.def_ 15 (d:=ziK) rfl
 obtain ⟨fd__law_bent_text,D__law_bent_text⟩:=c.def_ 16 (d:=zfj) rfl
 obtain ⟨fd__law_bent,D__law_bent⟩:=c.def_ 17 (d:=ziL) rfl
 obtain ⟨fd__law_name,D__law_name⟩:=c.def_ 18 (d:=ziM) rfl
 obtain ⟨fd__law_row,D__law_row⟩:=c.def_ 19 (d:=zj8) rfl
 obtain ⟨fd__law_due,D__law_due⟩:=c.def_ 20 (d:=zj9) rfl
 obtain ⟨fd_law,D_law⟩:=c.def_ 21 (d:=d_law) rfl
 obtain ⟨xs,ba,nf,xd⟩:=zvz X G cx
 obtain ⟨fd_X_NoText,D_X_NoText⟩:=c.def_ 22 (d:=zka) rfl
 obtain ⟨fd_X_Twice,D_X_Twice⟩:=c.def_ 23 (d:=zlE) rfl
 have m_len:mg "len" = none:=ybw X G (c.fact 22 (f:=.free "len") rfl)
 have m_LONGEST:Cst mg "LONGEST" (.int (8)):=zm9 (He.int_ok X G (c.fact 23 (f:=.int "LONGEST" (8)) rfl))
 have m_isinstance:mg "isinstance" = none:=ybw X G (c.fact 24 (f:=.free "isinstance") rfl)
 have m_str:mg "str" = none:=ybw X G (c.fact 25 (f:=.free "str") rfl)
 have m_LETTERS:Cst mg "LETTERS" (.str "abcdefghijklmnopqrstuvwxyz"):=zvk (He.str_ok X G (c.fact 26 (f:=.str "LETTERS" "abcdefghijklmnopqrstuvwxyz") rfl))
 have m_tuple:mg "tuple" = none:=ybw X G (c.fact 27 (f:=.free "tuple") rfl)
 have m_MOST_PORTS:Cst mg "MOST_PORTS" (.int (4)):=zm9 (He.int_ok X G (c.fact 28 (f:=.int "MOST_PORTS" (4)) rfl))
 have m_all:mg "all" = none:=ybw X G (c.fact 29 (f:=.free "all") rfl)
 have m_MOST_KINDS:Cst mg "MOST_KINDS" (.int (8)):=zm9 (He.int_ok X G (c.fact 30 (f:=.int "MOST_KINDS" (8)) rfl))
 have m_enumerate:mg "enumerate" = none:=ybw X G (c.fact 31 (f:=.free "enumerate") rfl)
 have m_sorted:mg "sorted" = none:=ybw X G (c.fact 32 (f:=.free "sorted") rfl)
 have m_range:mg "range" = none:=ybw X G (c.fact 33 (f:=.free "range") rfl)
 have m_list:mg "list" = none:=ybw X G (c.fact 34 (f:=.free "list") rfl)
 have m_ValueError:mg "ValueError" = none:=ybw X G (c.fact 35 (f:=.free "ValueError") rfl)
 have m_max:mg "max" = none:=ybw X G (c.fact 36 (f:=.free "max") rfl)
 have m_bool:mg "bool" = none:=ybw X G (c.fact 37 (f:=.free "bool") rfl)
 have g_is_name:=ya0 X G (c.fact 0 (f:=.glo "is_name") rfl)
 have g_is_spec:=ya0 X G (c.fact 1 (f:=.glo "is_spec") rfl)
 have g_is_kind_row:=ya0 X G (c.fact 2 (f:=.glo "is_kind_row") rfl)
 have zf3:=ya0 X G (c.fact 3 (f:=.glo "is_stock") rfl)
 have g_read_spec:=ya0 X G (c.fact 4 (f:=.glo "read_spec") rfl)
 have g_show_kind:=ya0 X G (c.fact 5 (f:=.glo "show_kind") rfl)
 have g_read_kind:=ya0 X G (c.fact 6 (f:=.glo "read_kind") rfl)
 have g_read_stock:=ya0 X G (c.fact 7 (f:=.glo "read_stock") rfl)
 have g__law_digits:=ya0 X G (c.fact 8 (f:=.glo "_law_digits") rfl)
 have g__law_take:=ya0 X G (c.fact 9 (f:=.glo "_law_take") rfl)
 have g__law_words:=ya0 X G (c.fact 10 (f:=.glo "_law_words") rfl)
 have g__law_stock:=ya0 X G (c.fact 11 (f:=.glo "_law_stock") rfl)
 have g__law_order:=ya0 X G (c.fact 12 (f:=.glo "_law_order") rfl)
 have g__law_kinds:=ya0 X G (c.fact 13 (f:=.glo "_law_kinds") rfl)
 have g__law_asked:=ya0 X G (c.fact 14 (f:=.glo "_law_asked") rfl)
 have g__law_text:=ya0 X G (c.fact 15 (f:=.glo "_law_text") rfl)
 have g__law_bent_text:=ya0 X G (c.fact 16 (f:=.glo "_law_bent_text") rfl)
 have g__law_bent:=ya0 X G (c.fact 17 (f:=.glo "_law_bent") rfl)
 have g__law_name:=ya0 X G (c.fact 18 (f:=.glo "_law_name") rfl)
 have g__law_row:=ya0 X G (c.fact 19 (f:=.glo "_law_row") rfl)
 have g__law_due:=ya0 X G (c.fact 20 (f:=.glo "_law_due") rfl)
 have zwe:=ya0 X G (c.fact 21 (f:=.glo "law") rfl)
 have e:=hfa.symm.trans zwe
 cases e
 refine ⟨fd_law,FunD.bindsA (ps:=["_law_script"]) D_law (λ_ _ _ _ _ _ us hl=>match us,hl with | [_],_=>rfl) |> λb s v=>b s [v] rfl,λbase KX NX => ?_⟩
 have X_NoText:XFd (PySem.Challenge.rw_weave_k06_stocks_as_texts).prog w K mg base 1 "NoText" "at" := zuc (xd ("NoText", "at") (by decide)) (xi_ok (CW:=He.ga K "WeaveError") (zol D_X_NoText) zkD (λcdv A outer s H E=>⟨_,zpE ba cdv A outer s H E⟩)) (FunD.bindsN (ps:=["self", "at"]) D_X_NoText λ_ _ _ _ _ _ us hl=>match us,hl with | [_,_],_=>rfl)
 have XH_NoText:XFdH (PySem.Challenge.rw_weave_k06_stocks_as_texts).prog w K mg base 1 "NoText" "at" := zqQ (xd ("NoText", "at") (by decide)) (zuf (zol D_X_NoText) zkD (λcdv A outer s H E p=>⟨_,znQ ba cdv A outer s H E p⟩)) (FunD.bindsN (ps:=["self", "at"]) D_X_NoText λ_ _ _ _ _ _ us hl=>match us,hl with | [_,_],_=>rfl)
 have X_Twice:XFd (PySem.Challenge.rw_weave_k06_stocks_as_texts).prog w K mg base 1 "Twice" "name" := zuc (xd ("Twice", "name") (by decide)) (xi_ok (CW:=He.ga K "WeaveError") (zol D_X_Twice) zmT (λcdv A outer s H E=>⟨_,zrW ba cdv A outer s H E⟩)) (FunD.bindsN (ps:=["self", "name"]) D_X_Twice λ_ _ _ _ _ _ us hl=>match us,hl with | [_,_],_=>rfl)
 have XH_Twice:XFdH (PySem.Challenge.rw_weave_k06_stocks_as_texts).prog w K mg base 1 "Twice" "name" := zqQ (xd ("Twice", "name") (by decide)) (zuf (zol D_X_Twice) zmT (λcdv A outer s H E p=>⟨_,zpF ba cdv A outer s H E p⟩)) (FunD.bindsN (ps:=["self", "name"]) D_X_Twice λ_ _ _ _ _ _ us hl=>match us,hl with | [_,_],_=>rfl)
 have C_is_name:Cal (PySem.Challenge.rw_weave_k06_stocks_as_texts).prog w K mg base (xrT K nsX) 1 "is_name" zdK:=zc8 (kp:=[]) (zeo D_is_name) g_is_name (FunD.bindsN (ps:=["thing"]) D_is_name λ_ _ _ _ _ _ us hl=>match us,hl with | [_],_=>rfl) zmM (λcdv A outer s H E vs hl hr=>zrT (k:=0) m_len m_LONGEST m_isinstance m_str m_LETTERS cdv A outer s H E vs hl hr) zl5 λms Q X _ h=>zqS ms Q X h
 have C_is_spec:Cal (PySem.Challenge.rw_weave_k06_stocks_as_texts).prog w K mg base (xrT K nsX) 2 "is_spec" zjf:=zc8 (kp:=[]) (zeo D_is_spec) g_is_spec (FunD.bindsN (ps:=["thing"]) D_is_spec λ_ _ _ _ _ _ us hl=>match us,hl with | [_],_=>rfl) zrU (λcdv A outer s H E vs hl hr=>zrV (k:=1) m_len m_isinstance m_tuple m_str (C_is_name.up (by decide)) cdv A outer s H E vs hl hr) zl7 λms Q X _ h=>zqT ms Q X h
 have C_is_kind_row:Cal (PySem.Challenge.rw_weave_k06_stocks_as_texts).prog w K mg base (xrT K nsX) 3 "is_kind_row" zct:=zc8 (kp:=[]) (zeo D_is_kind_row) g_is_kind_row (FunD.bindsN (ps:=["thing"]) D_is_kind_row λ_ _ _ _ _ _ us hl=>match us,hl with | [_],_=>rfl) zfi (λcdv A outer s H E vs hl hr=>zlA (k:=2) m_len m_isinstance m_tuple m_MOST_PORTS m_all (C_is_name.up (by decide)) (C_is_spec.up (by decide)) cdv A outer s H E vs hl hr) ziq λms Q X _ h=>zk7 ms Q X h
 have C_is_stock:Cal (PySem.Challenge.rw_weave_k06_stocks_as_texts).prog w K mg base (xrT K nsX) 4 "is_stock" zf0:=zc8 (kp:=[]) (zeo D_is_stock) zf3 (FunD.bindsN (ps:=["thing"]) D_is_stock λ_ _ _ _ _ _ us hl=>match us,hl with | [_],_=>rfl) zf6 (λcdv A outer s H E vs hl hr=>zpB (k:=3) m_len m_MOST_KINDS m_isinstance m_tuple (C_is_kind_row.up (by decide)) cdv A outer s H E vs hl hr) zk8 λms Q X _ h=>zo2 ms Q X h
 have C_read_spec:CalN (PySem.Challenge.rw_weave_k06_stocks_as_texts).prog w K mg base (xrT K nsX) 3 "read_spec" zez:=zvE (kp:=[]) (zeo D_read_spec) g_read_spec (FunD.bindsN (ps:=["word"]) D_read_spec λ_ _ _ _ _ _ us hl=>match us,hl with | [_],_=>rfl) znI (λcdv A outer s H E vs hl hr=>znJ (k:=2) xs X_NoText (by decide) (C_is_name.up (by decide)) cdv A outer s H E vs hl hr) zjp λms Q X _ h=>zmk ms Q X h
 have C_show_kind:Cal (PySem.Challenge.rw_weave_k06_stocks_as_texts).prog w K mg base (xrT K nsX) 1 "show_kind" zfb:=zc8 (kp:=[]) (zeo D_show_kind) g_show_kind (FunD.bindsN (ps:=["kind", "ports"]) D_show_kind λ_ _ _ _ _ _ us hl=>match us,hl with | [_,_],_=>rfl) zgH (λcdv A outer s H E vs hl hr=>znK (k:=0)  cdv A outer s H E vs hl hr) zj2 λms Q X _ h=>zno ms Q X h
 have C_read_kind:Cal (PySem.Challenge.rw_weave_k06_stocks_as_texts).prog w K mg base (xrT K nsX) 4 "read_kind" zfd:=zc8 (kp:=[]) (zeo D_read_kind) g_read_kind (FunD.bindsN (ps:=["text", "at"]) D_read_kind λ_ _ _ _ _ _ us hl=>match us,hl with | [_,_],_=>rfl) zej (λcdv A outer s H E vs hl hr=>znL (k:=3) m_len xs X_NoText (by decide) m_tuple XH_NoText (C_read_spec.up (by decide)) (C_is_kind_row.up (by decide)) cdv A outer s H E vs hl hr) zj3 λms Q X _ h=>znp ms Q X h
 have C_read_stock:Cal (PySem.Challenge.rw_weave_k06_stocks_as_texts).prog w K mg base (xrT K nsX) 5 "read_stock" zeA:=zc8 (kp:=[]) (zeo D_read_stock) g_read_stock (FunD.bindsN (ps:=["texts"]) D_read_stock λ_ _ _ _ _ _ us hl=>match us,hl with | [_],_=>rfl) zbS (λcdv A outer s H E vs hl hr=>zmN (k:=4) m_enumerate xs X_Twice (by decide) m_tuple m_sorted (C_read_kind.up (by decide)) (C_is_stock.up (by decide)) cdv A outer s H E vs hl hr) zjs λms Q X _ h=>zmn ms Q X h
 have C__law_digits:Cal (PySem.Challenge.rw_weave_k06_stocks_as_texts).prog w K mg base (xrT K nsX) 1 "_law_digits" zd3:=zc8 (kp:=[]) (zeo D__law_digits) g__law_digits (FunD.bindsN (ps:=["_law_script", "_law_k"]) D__law_digits λ_ _ _ _ _ _ us hl=>match us,hl with | [_,_],_=>rfl) zb2 (λcdv A outer s H E vs hl hr=>zlB (k:=0) m_len m_range cdv A outer s H E vs hl hr) zk9 λms Q X _ h=>zo3 ms Q X h
 have C__law_take:Cal (PySem.Challenge.rw_weave_k06_stocks_as_texts).prog w K mg base (xrT K nsX) 1 "_law_take" zaq:=zc8 (kp:=[0]) (zeo D__law_take) g__law_take (FunD.bindsN (ps:=["_law_held", "_law_many"]) D__law_take λ_ _ _ _ _ _ us hl=>match us,hl with | [_,_],_=>rfl) zjQ (λcdv A outer s H E vs hl hr=>znM (k:=0)  cdv A outer s H E vs hl hr) znd λms Q X _ h=>zs0 ms Q X h
 have C__law_words:Cal (PySem.Challenge.rw_weave_k06_stocks_as_texts).prog w K mg base (xrT K nsX) 2 "_law_words" zgY:=zc8 (kp:=[0]) (zeo D__law_words) g__law_words (FunD.bindsN (ps:=["_law_held", "_law_many"]) D__law_words λ_ _ _ _ _ _ us hl=>match us,hl with | [_,_],_=>rfl) zbj (λcdv A outer s H E vs hl hr=>zmO (k:=1) m_range m_len (C__law_take.up (by decide)) cdv A outer s H E vs hl hr) zl9 λms Q X _ h=>zqV ms Q X h
 have C__law_stock:Cal (PySem.Challenge.rw_weave_k06_stocks_as_texts).prog w K mg base (xrT K nsX) 3 "_law_stock" zgZ:=zc8 (kp:=[0]) (zeo D__law_stock) g__law_stock (FunD.bindsN (ps:=["_law_held"]) D__law_stock λ_ _ _ _ _ _ us hl=>match us,hl with | [_],_=>rfl) za6 (λcdv A outer s H E vs hl hr=>zmP (k:=2) m_range m_len m_tuple m_sorted (C__law_take.up (by decide)) (C__law_words.up (by decide)) cdv A outer s H E vs hl hr) zmb λms Q X _ h=>zqW ms Q X h
 have C__law_order:Cal (PySem.Challenge.rw_weave_k06_stocks_as_texts).prog w K mg base (xrT K nsX) 2 "_law_order" zg0:=zc8 (kp:=[0]) (zeo D__law_order) g__law_order (FunD.bindsN (ps:=["_law_held", "_law_many"]) D__law_order λ_ _ _ _ _ _ us hl=>match us,hl with | [_,_],_=>rfl) zfW (λcdv A outer s H E vs hl hr=>zmQ (k:=1) m_list m_range m_len (C__law_take.up (by decide)) cdv A outer s H E vs hl hr) zme λms Q X _ h=>zqY ms Q X h
 have C__law_kinds:CalF (PySem.Challenge.rw_weave_k06_stocks_as_texts).prog w K mg base nsX 1 "_law_kinds" zbF:=zvx (xr:=(xrT K nsX)) (st:=zbP) (zeo D__law_kinds) g__law_kinds (FunD.bindsN (ps:=["_law_e"]) D__law_kinds λ_ _ _ _ _ _ us hl=>match us,hl with | [_],_=>rfl) zfX zcv (λcdv A outer s H E p x hin hr=>zmR (k:=0) m_isinstance xs m_ValueError cdv A outer s H E p x hin hr) λx Q h=>zj4 x Q h
 have C__law_asked:Cal (PySem.Challenge.rw_weave_k06_stocks_as_texts).prog w K mg base (xrT K nsX) 6 "_law_asked" zdg:=zc8 (kp:=[]) (zeo D__law_asked) g__law_asked (FunD.bindsN (ps:=["_law_texts"]) D__law_asked λ_ _ _ _ _ _ us hl=>match us,hl with | [_],_=>rfl) zbk (λcdv A outer s H E vs hl hr=>zmS (k:=5) xs nf (C_read_stock.up (by decide)) (C__law_kinds.up (by decide)) cdv A outer s H E vs hl hr) zg2 λms Q X _ h=>zju ms Q X h
 have C__law_text:Cal (PySem.Challenge.rw_weave_k06_stocks_as_texts).prog w K mg base (xrT K nsX) 1 "_law_text" zd4:=zc8 (kp:=[]) (zeo D__law_text) g__law_text (FunD.bindsN (ps:=["_law_row_here"]) D__law_text λ_ _ _ _ _ _ us hl=>match us,hl with | [_],_=>rfl) zgI (λcdv A outer s H E vs hl hr=>znN (k:=0)  cdv A outer s H E vs hl hr) zlf λms Q X _ h=>zpa ms Q X h
 have C__law_bent_text:Cal (PySem.Challenge.rw_weave_k06_stocks_as_texts).prog w K mg base (xrT K nsX) 2 "_law_bent_text" zcx:=zc8 (kp:=[0]) (zeo D__law_bent_text) g__law_bent_text (FunD.bindsN (ps:=["_law_held", "_law_text_here"]) D__law_bent_text λ_ _ _ _ _ _ us hl=>match us,hl with | [_,_],_=>rfl) zaN (λcdv A outer s H E vs hl hr=>ziw (k:=1) m_len (C__law_take.up (by decide)) cdv A outer s H E vs hl hr) ziu λms Q X _ h=>zlg ms Q X h
 have C__law_bent:Cal (PySem.Challenge.rw_weave_k06_stocks_as_texts).prog w K mg base (xrT K nsX) 3 "_law_bent" zdE:=zc8 (kp:=[0]) (zeo D__law_bent) g__law_bent (FunD.bindsN (ps:=["_law_held", "_law_texts"]) D__law_bent λ_ _ _ _ _ _ us hl=>match us,hl with | [_,_],_=>rfl) zco (λcdv A outer s H E vs hl hr=>znO (k:=2) m_len (C__law_take.up (by decide)) (C__law_bent_text.up (by decide)) cdv A outer s H E vs hl hr) zhG λms Q X _ h=>zj6 ms Q X h
 have C__law_name:Cal (PySem.Challenge.rw_weave_k06_stocks_as_texts).prog w K mg base (xrT K nsX) 1 "_law_name" zeR:=zc8 (kp:=[]) (zeo D__law_name) g__law_name (FunD.bindsN (ps:=["_law_word"]) D__law_name λ_ _ _ _ _ _ us hl=>match us,hl with | [_],_=>rfl) zgJ (λcdv A outer s H E vs hl hr=>znP (k:=0) m_len cdv A outer s H E vs hl hr) zmp λms Q X _ h=>zq3 ms Q X h
 have C__law_row:Cal (PySem.Challenge.rw_weave_k06_stocks_as_texts).prog w K mg base (xrT K nsX) 2 "_law_row" zg4:=zc8 (kp:=[]) (zeo D__law_row) g__law_row (FunD.bindsN (ps:=["_law_text_here"]) D__law_row λ_ _ _ _ _ _ us hl=>match us,hl with | [_],_=>rfl) zeX (λcdv A outer s H E vs hl hr=>zpC (k:=1) m_len m_tuple (C__law_name.up (by decide)) cdv A outer s H E vs hl hr) zmr λms Q X _ h=>zq4 ms Q X h
 have C__law_due:Cal (PySem.Challenge.rw_weave_k06_stocks_as_texts).prog w K mg base (xrT K nsX) 3 "_law_due" zdi:=zc8 (kp:=[]) (zeo D__law_due) g__law_due (FunD.bindsN (ps:=["_law_texts"]) D__law_due λ_ _ _ _ _ _ us hl=>match us,hl with | [_],_=>rfl) zbO (λcdv A outer s H E vs hl hr=>zpD (k:=2) m_range m_len m_tuple m_sorted (C__law_row.up (by decide)) cdv A outer s H E vs hl hr) zg5 λms Q X _ h=>zjx ms Q X h
 exact zvl (kp:=[]) (sp:=sp_law222222222222222222222222222222) (zeo D_law) zfq (λcdv A outer s H E vs hl hr=>s_law (k:=6) m_range m_max m_len m_isinstance m_str m_list m_bool (C__law_digits.up (by decide)) (C__law_stock.up (by decide)) (C_show_kind.up (by decide)) (C__law_text.up (by decide)) (C__law_order.up (by decide)) (C__law_bent.up (by decide)) (C__law_due.up (by decide)) (C__law_asked.up (by decide)) cdv A outer s H E vs hl hr) λms Q X _ h=>zcY ms Q X h
end LK06
end VW
open PySem PySem.W PySem.Calls PyProof.Rows
set_option maxHeartbeats 0
theorem PySem.Challenge.cw_weave_k06_stocks_as_texts_holds : PySem.Challenge.rw_weave_k06_stocks_as_texts.Holds := by
 w_on; o_law
 refine HandSHeadRun.head_any (r:=OpenLaw.row PySem.Challenge.rw_weave_k06_stocks_as_texts) (q:=VW.LK06.qv) (H:=VW.LK06.hk) (ob:=VW.LK06.ob) (M:=18800) (loose:=VW.LK06.nms) (d:=HandSHeadRun.topDef (OpenLaw.row PySem.Challenge.rw_weave_k06_stocks_as_texts).prog 39) (kwd:=[]) VW.LK06.ob_eq
  (by kernel_rfl) (λs=>by kernel_rfl) VW.LK06.run (by kernel_rfl) (by kernel_rfl) (by kernel_rfl) (by rfl) (by first | assumption | decide +kernel) (by decide +kernel) ⟨rfl,rfl,rfl,rfl,rfl,by decide +kernel⟩ ?hw ?hc
 case hw=>w_witness2
 case hc =>
  refine VW.walk_ofW (l:=PySem.Challenge.rw_weave_k06_stocks_as_texts) (n:=63) (k:=7) (x := "_law_script") rfl (by decide) (by kernel_rfl) ⟨rfl,by decide,by decide⟩ ?F
  intro w mg fa h Y G hmg0
  obtain ⟨K,KX,cx,c⟩:=Y
  have hmg:mg ("law" : PySem.Str)=some (.ref fa):=by
   have e:(HandSHeadRun.topDef (OpenLaw.row PySem.Challenge.rw_weave_k06_stocks_as_texts).prog 39).name=("law" : PySem.Str):=by kernel_rfl
   rw [← e]
   exact hmg0
  obtain ⟨fd,hb,hF⟩:=VW.LK06.facts (w:=w) KX G hmg c cx
  refine ⟨K,fd,_,KX,hb,λH a ns hl _ hS=>VW.law_sp (sp:=VW.sp_law222222222222222222222222222222) (λns hl Q X q=>⟨_,rfl,?_⟩) H a ns hl hS,hF⟩
  rw [VW.LK06.law_true ns hl]
  exact q
