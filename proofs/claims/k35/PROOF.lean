import PyProof.Rows.All
import Wide.All
import OpenK.AllK
import Wide.FinOn
import HandS.ForMost
import HandS.ForExc
import HandS.IsInst
import HandS.TupAny
import HandS.TupMul
import HandS.Deep
import HandS.Wide
import KE.SortData
import KE.LtData
import KE.KDictPairs
import KE.DataCmp
import HandS.Text
import HandS.TupLen
import HandS.StrMore
import HandS.Replace
import HandS.Small
import HandS.Style
import HandS.Set
import HandS.SetFor
import KE.KStateDown
import Lean
import HandS.More
import HandS.Defaults
import HandS.Head0
import HandS.Head1
import HandS.Head2
import HandS.HeadEnd
import HandS.HeadHook1
import HandS.HeadHook2
import KE.GoesEnum
import HandS.Conv
import KE.KDictWalk
import HandS.ListItems
import KE.KDictKeyed
import PyProof.TupleOfSeq
import HandS.TupLe
import KE.KDictList
import HandS.TupSets
import HandS.Strs
import HandS.Flow
import HandS.ExcIs
import HandS.TryMany
import HandS.HotCalls
import HandS.DictTup
import HandS.ExcInit
import HandS.ExcField
import HandS.ClsMeth
import KE.KExcIs
import HandS.SetKeys
import KE.KDictZip
import KE.KItemsList
import HandS.Zip
import KE.GoesMore
import KE.DataFind
import KE.DataMinMax
import KE.KTupSum
import PyProof.StrBlock2
import KE.DatumOrd
import PySem.Challenge.RW_weave_k35_weights
def yaa:=@List.mem_cons_self
def yab:=@List.mem_cons_of_mem
def yac:=@List.length_map
def yad:=@List.perm_middle
def yae:=@List.append_assoc
def yaf:=@decide_eq_true
def yag:=@List.mem_append_right
def yah:=@List.mem_singleton
def yai:=@List.mem_append_left
def yaj:=@Nat.le_refl
def yak:=@List.getElem?_eq_getElem
def yal:=@List.getElem?_eq_some_iff
def yam:=@List.length_append
def yan:=@List.mem_map
def yao:=@of_decide_eq_true
def yap:=@List.mem_cons
def yaq:=@decide_eq_true_eq
def yar:=@List.getElem?_eq_none
def yas:=@Bool.and_eq_true
def yat:=@PySem.F.plainAttrs_list
def yau:=@List.length_range
def yav:=@List.all_eq_true
def yaw:=@if_pos
def yax:=@Bool.false_ne_true
def yay:=@List.mem_append
def yaz:=@if_neg
def yaA:=@List.mem_range
def yaB:=@List.length_cons
def yaC:=@List.perm_append_comm
def yaD:=@decide_eq_false
def yaE:=@PySem.F.slot_list_append
def yaF:=@PySem.F.type_list_append
def yaG:=@PySem.boot_len
def yaH:=@List.map_cons
def yaI:=@List.getElem?_map
def yaJ:=@Classical.byContradiction
def yaK:=@List.getElem?_set_ne
def yaL:=@List.mem_of_getElem?
def yaM:=@List.getElem?_set_self
def yaN:=@Int.mul_zero
def yaO:=@List.getD_eq_getElem?_getD
def yaP:=@Option.map_eq_some_iff
def yaQ:=@List.append_nil
def yaR:=@List.map_append
def yaS:=@List.ext_getElem?
def yaT:=@Option.some.inj
def yaU:=@List.getElem?_range
def yaV:=@Nat.le_of_ble_eq_true
def yaW:=@List.size_toArray
def yaX:=@Bool.and_eq_true_iff
def yaY:=@List.map_map
def yaZ:=@Int.mul_comm
def ya0:=@Nat.not_lt_zero
def ya1:=@Int.mul_assoc
def ya2:=@Nat.ne_of_gt
def ya3:=@Array.length_toList
def ya4:=@Nat.zero_add
def ya5:=@Nat.ne_of_lt
def ya6:=@Int.zero_mul
def ya7:=@Nat.le_trans
def ya8:=@congrArg
def ya9:=@List.nodup_cons
def yba:=@List.length_nil
def ybb:=@List.not_mem_nil
def ybc:=@He.glo_ok
def ybd:=@Nat.zero_le
def ybe:=@PyProof.Rows.callWith_type1
def ybf:=@List.mem_flatMap
def ybg:=@List.nodup_append
def ybh:=@List.set_set
def ybi:=@Eq.trans
def ybj:=@List.drop_eq_getElem_cons
def ybk:=@List.mem_filter
def ybl:=@List.getElem?_append_left
def ybm:=@Bool.or_eq_true
def ybn:=@List.length_take
def ybo:=@List.mem_iff_getElem?
def ybp:=@Int.mul_nonpos_of_nonneg_of_nonpos
def ybq:=@Nat.mul_le_mul
def ybr:=@List.length_set
def ybs:=@List.lookup_cons
def ybt:=@List.getElem?_zip_eq_some
def ybu:=@List.find?_cons
def ybv:=@List.getElem?_toArray
def ybw:=@List.set_cons_succ
def ybx:=@List.set_cons_zero
def yby:=@Nat.lt_of_lt_of_le
def ybz:=@He.free_ok
def ybA:=@Nat.succ_ne_self
def ybB:=@Nat.le_add_right
def ybC:=@Int.mul_pos
def ybD:=@List.replicate_succ
def ybE:=@Nat.le_mul_of_pos_left
def ybF:=@List.getElem?_append_right
def ybG:=@List.length_filter_le
def ybH:=@PySem.F.slot_list_pop
def ybI:=@PySem.F.type_list_pop
def ybJ:=@List.mem_of_mem_take
def ybK:=@List.set_eq_of_length_le
def ybL:=@List.flatten_cons
def ybM:=@List.length_zip
def ybN:=@Nat.lt_trans
def ybO:=@Int.zero_add
def ybP:=@List.map_congr_left
def ybQ:=@Bool.true_and
def ybR:=@Ne.symm
def ybS:=@List.map_mergeSort
def ybT:=@Bool.eq_iff_iff
def ybU:=@List.length_mergeSort
def ybV:=@List.nil_append
def ybW:=@Int.toNat_natCast
def ybX:=@List.drop_length
def ybY:=@List.mergeSort_perm
def ybZ:=@beq_eq_false_iff_ne
def yb0:=@Int.toNat_of_nonneg
def yb1:=@PySem.F.slot_list_extend
def yb2:=@PySem.F.type_list_extend
def yb3:=@of_decide_eq_false
def yb4:=@List.foldl_cons
def yb5:=@List.find?_eq_none
def yb6:=@List.pairwise_cons
def yb7:=@Int.emod_lt_of_pos
def yb8:=@List.take_of_length_le
def yb9:=@Bool.not_eq_true'
def yca:=@List.pairwise_map
def ycb:=@Nat.lt_succ_of_lt
def ycc:=@Int.one_mul
def ycd:=@List.nodup_nil
def yce:=@List.contains_iff_mem
def ycf:=@List.length_drop
def ycg:=@List.toList_toArray
def ych:=@Int.emod_nonneg
def yci:=@List.filterMap_cons
def ycj:=@List.map_eq_nil_iff
def yck:=@Int.mul_eq_zero
def ycl:=@List.nodup_iff_pairwise_ne
def ycm:=@Nat.lt_of_le_of_lt
def ycn:=@Nat.min_self
def yco:=@Int.natCast_nonneg
def ycp:=@Int.lt_of_le_of_lt
def ycq:=@Int.le_of_lt
def ycr:=@Int.ofNat_dvd_left
def ycs:=@Array.getElem?_eq_getElem
def yct:=@List.pairwise_iff_getElem
def ycu:=@Int.natAbs_mul
def ycv:=@Int.eq_of_mul_eq_mul_left
def ycw:=@Nat.le_succ_of_le
def ycx:=@Option.some.injEq
def ycy:=@List.flatMap_cons
def ycz:=@Option.bind_eq_some_iff
def ycA:=@List.set_comm
def ycB:=@List.cons.inj
def ycC:=@List.any_cons
def ycD:=@List.all_cons
def ycE:=@List.pairwise_mergeSort
def ycF:=@List.getElem?_cons_succ
def ycG:=@Int.natCast_dvd_natCast
def ycH:=@List.any_eq_true
def ycI:=@Nat.lt_succ_self
def ycJ:=@List.filter_cons
def ycK:=@L2.Vals.nil_iff
def ycL:=@Option.map_some
def ycM:=@List.of_mem_zip
def ycN:=@Nat.min_eq_left
def ycO:=@List.range_succ
def ycP:=@Int.add_zero
def ycQ:=@Int.sub_self
def ycR:=@beq_iff_eq
def ycS:=@Nat.le_succ
def ycT:=@Int.mul_sub
def ycU:=@Int.mul_one
def ycV:=@He.noat_ok
def ycW:=@He.meth_ok
def ycX:=@or_false
set_option Elab.async false
set_option linter.all false
set_option maxRecDepth 100000
namespace VW
open PySem L2
set_option maxHeartbeats 8000000
namespace LK35
def top (i:Nat):Stmt:=PySem.Challenge.pw_weave_k35_weights.main.body.getD i (.Pass ⟨0,0,0,0⟩)
abbrev zcM:Stmt:=top 1
abbrev zfu:Stmt:=top 2
abbrev zex:Stmt:=top 3
abbrev zey:Stmt:=top 4
def zxY:Stmt->List Stmt
 | .ClassDef _ _ _ b _ _ _ _ _ _ _=>b
 | _=>[]
def met (i j:Nat):Stmt:=(zxY (top i)).getD j (.Pass ⟨0,0,0,0⟩)
abbrev zfv:Stmt:=met 5 0
abbrev zcN:Stmt:=met 5 1
abbrev zdz:Stmt:=met 5 2
abbrev zfw:Stmt:=met 5 3
abbrev zez:Stmt:=met 5 4
abbrev zeA:Stmt:=top 6
abbrev zbK:Stmt:=top 8
abbrev zcO:Stmt:=top 9
abbrev zcP:Stmt:=top 10
abbrev zb1:Stmt:=top 11
abbrev zcQ:Stmt:=top 12
abbrev zb2:Stmt:=top 13
abbrev zb3:Stmt:=top 14
abbrev zb4:Stmt:=top 15
abbrev zb5:Stmt:=top 16
abbrev zbL:Stmt:=top 17
abbrev zcR:Stmt:=top 18
abbrev zbM:Stmt:=top 19
abbrev zcS:Stmt:=top 20
abbrev zcT:Stmt:=top 21
abbrev zcU:Stmt:=top 22
abbrev zbp:Stmt:=top 23
abbrev zb6:Stmt:=top 24
abbrev zbq:Stmt:=top 25
abbrev zb7:Stmt:=top 26
abbrev zoV:Stmt:=top 27
def zjG:He.DefD:=⟨("counts_of",none), "counts_of", "counts_of",defArgs zcM,defBody zcM,defScope zcM,[],[]⟩
def zpR:He.DefD:=⟨("losses",none), "losses", "losses",defArgs zfu,defBody zfu,defScope zfu,[],[]⟩
def znf:He.DefD:=⟨("divisor",none), "divisor", "divisor",defArgs zex,defBody zex,defScope zex,[],[]⟩
def zng:He.DefD:=⟨("cleared",none), "cleared", "cleared",defArgs zey,defBody zey,defScope zey,[],[]⟩
def d_weighed:He.DefD:=⟨("weighed",none), "weighed", "weighed",defArgs zeA,defBody zeA,defScope zeA,[],[]⟩
def zhn:He.DefD:=⟨("_law_digits",none), "_law_digits", "_law_digits",defArgs zbK,defBody zbK,defScope zbK,[],[]⟩
def zjH:He.DefD:=⟨("_law_take",none), "_law_take", "_law_take",defArgs zcO,defBody zcO,defScope zcO,[],[]⟩
def zjI:He.DefD:=⟨("_law_mate",none), "_law_mate", "_law_mate",defArgs zcP,defBody zcP,defScope zcP,[],[]⟩
def ziK:He.DefD:=⟨("_law_order",none), "_law_order", "_law_order",defArgs zb1,defBody zb1,defScope zb1,[],[]⟩
def zjJ:He.DefD:=⟨("_law_free",none), "_law_free", "_law_free",defArgs zcQ,defBody zcQ,defScope zcQ,[],[]⟩
def ziL:He.DefD:=⟨("_law_wires",none), "_law_wires", "_law_wires",defArgs zb2,defBody zb2,defScope zb2,[],[]⟩
def ziM:He.DefD:=⟨("_law_words",none), "_law_words", "_law_words",defArgs zb3,defBody zb3,defScope zb3,[],[]⟩
def ziN:He.DefD:=⟨("_law_stock",none), "_law_stock", "_law_stock",defArgs zb4,defBody zb4,defScope zb4,[],[]⟩
def ziO:He.DefD:=⟨("_law_mates",none), "_law_mates", "_law_mates",defArgs zb5,defBody zb5,defScope zb5,[],[]⟩
def zho:He.DefD:=⟨("_law_closed",none), "_law_closed", "_law_closed",defArgs zbL,defBody zbL,defScope zbL,[],[]⟩
def zjK:He.DefD:=⟨("_law_left",none), "_law_left", "_law_left",defArgs zcR,defBody zcR,defScope zcR,[],[]⟩
def zhp:He.DefD:=⟨("_law_ringed",none), "_law_ringed", "_law_ringed",defArgs zbM,defBody zbM,defScope zbM,[],[]⟩
def zjL:He.DefD:=⟨("_law_wild",none), "_law_wild", "_law_wild",defArgs zcS,defBody zcS,defScope zcS,[],[]⟩
def zjM:He.DefD:=⟨("_law_many",none), "_law_many", "_law_many",defArgs zcT,defBody zcT,defScope zcT,[],[]⟩
def zjN:He.DefD:=⟨("_law_lost",none), "_law_lost", "_law_lost",defArgs zcU,defBody zcU,defScope zcU,[],[]⟩
def zgN:He.DefD:=⟨("_law_numbers",none), "_law_numbers", "_law_numbers",defArgs zbp,defBody zbp,defScope zbp,[],[]⟩
def ziP:He.DefD:=⟨("_law_right",none), "_law_right", "_law_right",defArgs zb6,defBody zb6,defScope zb6,[],[]⟩
def zgO:He.DefD:=⟨("_law_pattern",none), "_law_pattern", "_law_pattern",defArgs zbq,defBody zbq,defScope zbq,[],[]⟩
def ziQ:He.DefD:=⟨("_law_rules",none), "_law_rules", "_law_rules",defArgs zb7,defBody zb7,defScope zb7,[],[]⟩
def d_law:He.DefD:=⟨("law",none), "law", "law",defArgs zoV,defBody zoV,defScope zoV,[],[]⟩
def zpS:He.DefD:=⟨("Table",some "__init__"), "__init__", "Table.__init__",defArgs zfv,defBody zfv,defScope zfv,[],[]⟩
def zjO:He.DefD:=⟨("Table",some "gaining"), "gaining", "Table.gaining",defArgs zcN,defBody zcN,defScope zcN,[],[]⟩
def zlg:He.DefD:=⟨("Table",some "giving"), "giving", "Table.giving",defArgs zdz,defBody zdz,defScope zdz,[],[]⟩
def zpT:He.DefD:=⟨("Table",some "turn"), "turn", "Table.turn",defArgs zfw,defBody zfw,defScope zfw,[],[]⟩
def znh:He.DefD:=⟨("Table",some "times"), "times", "Table.times",defArgs zez,defBody zez,defScope zez,[],[]⟩
def fns:List He.DefD:=[zjG,zpR,znf,zng,d_weighed,zhn,zjH,zjI,ziK,zjJ,ziL,ziM,ziN,ziO,zho,zjK,zhp,zjL,zjM,zjN,zgN,ziP,zgO,ziQ,d_law,zpS,zjO,zlg,zpT,znh]
def fas:List He.Fa:=[.glo "counts_of",.glo "losses",.glo "divisor",.glo "cleared",.glo "weighed",.glo "_law_digits",.glo "_law_take",.glo "_law_mate",.glo "_law_order",.glo "_law_free",.glo "_law_wires",.glo "_law_words",.glo "_law_stock",.glo "_law_mates",.glo "_law_closed",.glo "_law_left",.glo "_law_ringed",.glo "_law_wild",.glo "_law_many",.glo "_law_lost",.glo "_law_numbers",.glo "_law_right",.glo "_law_pattern",.glo "_law_rules",.glo "law",.free "enumerate",.free "abs",.free "zip",.free "max",.free "len",.free "range",.free "int",.free "min",.free "list",.free "tuple",.free "dict",.free "sorted",.free "isinstance",.free "bool",.free "sum",.glo "Table",.cls "Table",.noat "Table" "width",.noat "Table" "lines",.noat "Table" "owners",.noat "Table" "gains",.meth "Table" "gaining",.meth "Table" "giving",.meth "Table" "turn",.meth "Table" "times",.mkr "Table"]
def nms0:List Str:=["counts_of", "losses", "divisor", "cleared", "weighed", "_law_digits", "_law_take", "_law_mate", "_law_order", "_law_free", "_law_wires", "_law_words", "_law_stock", "_law_mates", "_law_closed", "_law_left", "_law_ringed", "_law_wild", "_law_many", "_law_lost", "_law_numbers", "_law_right", "_law_pattern", "_law_rules", "Table"]
def nms:List Str:=nms0
abbrev Rw:PySem.W.OpenRow:=PySem.W.OpenLaw.row PySem.Challenge.rw_weave_k35_weights
abbrev qv:Program:=PySem.W.view Rw.prog [27]
abbrev hk:PySem.W.Hook:=He.hookD 5 fas fns
def ob (s:PySem.W.SharedT):He.AlD:=He.obsDG 5 fas fns (HandSHeadRun.getT s)
set_option maxHeartbeats 0 in
theorem run (w:World):HandSHeadRun.RunEq Rw qv hk ob 18080 nms w:=by
 intro os
 kernel_rfl
end LK35
end VW
namespace VW
open PySem L2
inductive D where
 | non | bl (b:Bool) | int (i:Int) | str (s:Str) | ty (n:String) | opq | scr (ns:List Int)
 | tup (ds:List D) | lst (ds:List D)
 | dK (kvs:List (Key×D)) | dT (kvs:List (List Key×D))
 | att (p:Addr) (u:HO)
 | adr (p:Addr)
 | atx (p q:Addr) (u:HO)
 deriving Inhabited
def zwX:V->Bool
 | .int _=>true
 | .str _=>true
 | _=>false
def zfM:List V->Bool
 | .int _::vs=>vs.all zwX
 | _=>false
inductive TupO (vs:List V):HO->Prop
 | key (k:zfM vs=true):TupO vs (.tup vs)
 | frz {o:Obj} (k:zfM vs=false) (c:o.cls=.type "tuple") (d:o.dict=none) {its:Array Value} {n:Nat} (e:o.data=.seq its n):TupO vs (.frz o (.tup vs))
def TupAt (G:Hp) (a:Addr) (vs:List V):Prop:=∃ o,G a=some o/\TupO vs o
def zvd:HO->Bool
 | .dK _=>true
 | .dT _=>true
 | _=>false
section
variable (K:PySem.W.Frag) (G:Hp)
mutual
inductive Rep:V->D->Prop
 | non:Rep .non .non
 | bl (b:Bool):Rep (.bl b) (.bl b)
 | int (i:Int):Rep (.int i) (.int i)
 | str (s:Str):Rep (.str s) (.str s)
 | ty (n:String):Rep (.ty n) (.ty n)
 | opq (v:V):Rep v .opq
 | tup {a:Addr} {vs:List V} {ds:List D} (h:TupAt G a vs) (r:Reps vs ds):Rep (.ref a) (.tup ds)
 | lst {a:Addr} {vs:List V} {ds:List D} (h:G a=some (.lst vs)) (r:Reps vs ds):Rep (.ref a) (.lst ds)
 | scr {a:Addr} {ns:List Int} (h:SqL K G a (ns.map V.int)):Rep (.ref a) (.scr ns)
 | dK {a:Addr} {kvs:List (Key×V)} {kds:List (Key×D)} (h:Rd G a (.dK kvs)) (r:RepK kvs kds):Rep (.ref a) (.dK kds)
 | dT {a:Addr} {kvs:List (List Key×V)} {kds:List (List Key×D)} (h:Rd G a (.dT kvs)) (r:RepT kvs kds):Rep (.ref a) (.dT kds)
 | att {p:Addr} {u:HO} (h:G p=some u) (n:zvd u=false):Rep (.ref p) (.att p u)
 | adr (p:Addr):Rep (.ref p) (.adr p)
 | atx {p q:Addr} {u:HO} (h:G q=some u) (n:zvd u=false):Rep (.ref p) (.atx p q u)
inductive Reps:List V->List D->Prop
 | nil:Reps [] []
 | cons {v:V} {d:D} {vs:List V} {ds:List D} (h:Rep v d) (r:Reps vs ds):Reps (v::vs) (d::ds)
inductive RepK:List (Key×V)->List (Key×D)->Prop
 | nil:RepK [] []
 | cons {k:Key} {v:V} {d:D} {vs:List (Key×V)} {ds:List (Key×D)} (h:Rep v d) (r:RepK vs ds):RepK ((k,v)::vs) ((k,d)::ds)
inductive RepT:List (List Key×V)->List (List Key×D)->Prop
 | nil:RepT [] []
 | cons {k:List Key} {v:V} {d:D} {vs:List (List Key×V)} {ds:List (List Key×D)} (h:Rep v d) (r:RepT vs ds):RepT ((k,v)::vs) ((k,d)::ds)
end
end
def Ex (H H':Hp):Prop:=∀ a o,H a=some o->H' a=some o\/zvd o=true/\∃ od,H' a=some (.frz od o)
theorem Ex.of {H H':Hp} (h:∀ a o,H a=some o->H' a=some o):Ex H H':=λa o e=>.inl (h a o e)
theorem Ex.keep {H H':Hp} (e:Ex H H') {a:Addr} {o:HO} (h:H a=some o) (n:zvd o=false:=by rfl):H' a=some o:=by
 rcases e a o h with h | ⟨z,_⟩
 ·exact h
 ·rw [n] at z
  cases z
theorem Ex.refl (H:Hp):Ex H H:=.of λ_ _ h=>h
theorem Ex.trans {H H1 H2:Hp} (a:Ex H H1) (b:Ex H1 H2):Ex H H2:=λx o h=>by
 rcases a x o h with h1 | ⟨z,od,h1⟩
 ·exact b x o h1
 ·exact .inr ⟨z,od,b.keep h1⟩
theorem Ex.rd {H H':Hp} {a:Addr} {u:HO} (e:Ex H H') (h:Rd H a u):Rd H' a u:=by
 rcases h with h | ⟨o,h⟩
 ·rcases e a _ h with h | ⟨_,od,h⟩
  ·exact Or.inl h
  ·exact Or.inr ⟨od,h⟩
 ·exact Or.inr ⟨o,e.keep h⟩
theorem Ex.sqL {K:PySem.W.Frag} {H H':Hp} {a:Addr} {xs:List V} (e:Ex H H') (h:SqL K H a xs):SqL K H' a xs:=by
 rcases h with h | h
 ·exact Or.inl (e.rd h)
 ·exact Or.inr h
theorem TupO.rd {H:Hp} {a:Addr} {vs:List V} {o:HO} (t:TupO vs o) (h:H a=some o):Rd H a (.tup vs):=by
 cases t with
 | key k=>exact .inl h
 | frz k c d e=>exact .inr ⟨_,h⟩
theorem TupAt.rd {H:Hp} {a:Addr} {vs:List V} (t:TupAt H a vs):Rd H a (.tup vs):=by
 obtain ⟨o,h,t⟩:=t
 exact t.rd h
theorem TupAt.sqT {K:PySem.W.Frag} {H:Hp} {a:Addr} {vs:List V} (t:TupAt H a vs):SqT K H a vs:=.inl t.rd
theorem TupAt.mono {G H:Hp} {a:Addr} {vs:List V} (t:TupAt G a vs) (e:Ex G H):TupAt H a vs:=by
 obtain ⟨o,h,t⟩:=t
 refine ⟨o,e.keep h ?_,t⟩
 cases t<;>rfl
theorem TupAt.key {H:Hp} {a:Addr} {vs:List V} (t:TupAt H a vs) (k:zfM vs=true):H a=some (.tup vs):=by
 obtain ⟨o,h,t⟩:=t
 cases t with
 | key _=>exact h
 | frz k'=>rw [k] at k'; cases k'
theorem TupAt.frz {H:Hp} {a:Addr} {vs:List V} (t:TupAt H a vs) (k:zfM vs=false):∃ o its n,H a=some (.frz o (.tup vs))/\o.cls=.type "tuple" /\ o.dict=none/\o.data=.seq its n:=by
 obtain ⟨o,h,t⟩:=t
 cases t with
 | key k'=>rw [k] at k'; cases k'
 | frz _ c d e=>exact ⟨_,_,_,h,c,d,e⟩
theorem TupO.any (vs:List V):∀ {o:Obj} {its:Array Value} {n:Nat},o.cls=.type "tuple" -> o.dict=none->o.data=.seq its n->TupO vs (if zfM vs=true then .tup vs else .frz o (.tup vs)):=λ{o its n} c d e=>by
 by_cases k:zfM vs=true
 ·rw [yaw k]
  exact .key k
 ·rw [yaz k]
  exact .frz (by simpa using k) c d e
theorem zhq {X:Cx} {pins:List (Addr×Obj)} {σ:L2.St} {H:Hp} {s:Shared} {xs:List V} {its:List Value} (I:Inv X pins σ H s) (z:xs.length<=sizeLine) (r:Vals xs its) :
 ∃ o,TupO xs o/\Inv X pins σ (upd H s.heap.objs.size o) { s with heap:=s.heap.push { cls:=.type "tuple",data:=.seq its.toArray } }:=by
 refine ⟨_,TupO.any xs (o:={ cls:=.type "tuple",data:=.seq its.toArray }) rfl rfl rfl,I.laid (t':=s.toks) (λb u e=>Heap.get?_push_of_some _ e) (yaj _) ?_⟩
 by_cases k:zfM xs=true
 ·rw [yaw k]
  exact ⟨z,its,r,PyProof.Rows.IsTup.new _ _⟩
 ·rw [yaz k]
  exact ⟨Heap.get?_push_size _ rfl,z,its,r,PyProof.Rows.IsTup.new _ _⟩
section
variable {K:PySem.W.Frag} {G G':Hp}
mutual
theorem Rep.mono (e:Ex G G'):∀ {v:V} {d:D},Rep K G v d->Rep K G' v d
 | _,_,.non=>.non
 | _,_,.bl b=>.bl b
 | _,_,.int i=>.int i
 | _,_,.str s=>.str s
 | _,_,.ty n=>.ty n
 | _,_,.opq v=>.opq v
 | _,_,.tup h r=>.tup (h.mono e) (Reps.mono e r)
 | _,_,.lst h r=>.lst (e.keep h) (Reps.mono e r)
 | _,_,.scr h=>.scr (e.sqL h)
 | _,_,.dK h r=>.dK (e.rd h) (RepK.mono e r)
 | _,_,.dT h r=>.dT (e.rd h) (RepT.mono e r)
 | _,_,.att h n=>.att (e.keep h n) n
 | _,_,.adr p=>.adr p
 | _,_,.atx h n=>.atx (e.keep h n) n
theorem Reps.mono (e:Ex G G'):∀ {vs:List V} {ds:List D},Reps K G vs ds->Reps K G' vs ds
 | _,_,.nil=>.nil
 | _,_,.cons h r=>.cons (Rep.mono e h) (Reps.mono e r)
theorem RepK.mono (e:Ex G G'):∀ {vs:List (Key×V)} {ds:List (Key×D)},RepK K G vs ds->RepK K G' vs ds
 | _,_,.nil=>.nil
 | _,_,.cons h r=>.cons (Rep.mono e h) (RepK.mono e r)
theorem RepT.mono (e:Ex G G'):∀ {vs:List (List Key×V)} {ds:List (List Key×D)},RepT K G vs ds->RepT K G' vs ds
 | _,_,.nil=>.nil
 | _,_,.cons h r=>.cons (Rep.mono e h) (RepT.mono e r)
end
theorem Reps.length:∀ {vs:List V} {ds:List D},Reps K G vs ds->vs.length=ds.length
 | _,_,.nil=>rfl
 | _,_,.cons _ r=>ya8 (· + 1) (Reps.length r)
theorem RepK.length:∀ {vs:List (Key×V)} {ds:List (Key×D)},RepK K G vs ds->vs.length=ds.length
 | _,_,.nil=>rfl
 | _,_,.cons _ r=>ya8 (· + 1) (RepK.length r)
theorem RepT.length:∀ {vs:List (List Key×V)} {ds:List (List Key×D)},RepT K G vs ds->vs.length=ds.length
 | _,_,.nil=>rfl
 | _,_,.cons _ r=>ya8 (· + 1) (RepT.length r)
theorem Reps.at:∀ {vs:List V} {ds:List D} {i:Nat} {d:D},Reps K G vs ds->ds[i]?=some d->∃ v,vs[i]?=some v/\Rep K G v d
 | _,_,_,_,.nil,h=>by simp at h
 | _,_,0,_,.cons h r,e=>by
   simp at e
   subst e
   exact ⟨_,rfl,h⟩
 | _,_,i+1,_,.cons _ r,e=>by
   obtain ⟨v,e1,h1⟩:=Reps.at (i:=i) r (by simpa using e)
   exact ⟨v,by simpa using e1,h1⟩
theorem Reps.append:∀ {vs us:List V} {ds es:List D},Reps K G vs ds->Reps K G us es->Reps K G (vs++us) (ds++es)
 | _,_,_,_,.nil,s=>s
 | _,_,_,_,.cons h r,s=>.cons h (Reps.append r s)
theorem Reps.take:∀ {vs:List V} {ds:List D} (n:Nat),Reps K G vs ds->Reps K G (vs.take n) (ds.take n)
 | _,_,0,_=>.nil
 | _,_,_+1,.nil=>.nil
 | _,_,n+1,.cons h r=>.cons h (Reps.take n r)
theorem Reps.drop:∀ {vs:List V} {ds:List D} (n:Nat),Reps K G vs ds->Reps K G (vs.drop n) (ds.drop n)
 | _,_,0,r=>r
 | _,_,_+1,.nil=>.nil
 | _,_,n+1,.cons _ r=>Reps.drop n r
theorem Reps.set {v:V} {d:D} (h:Rep K G v d):∀ {vs:List V} {ds:List D} (n:Nat),Reps K G vs ds->Reps K G (vs.set n v) (ds.set n d)
 | _,_,_,.nil=>.nil
 | _,_,0,.cons _ r=>.cons h r
 | _,_,n+1,.cons q r=>.cons q (Reps.set h n r)
theorem Reps.one {v:V} {d:D} (h:Rep K G v d):Reps K G [v] [d]:=.cons h .nil
theorem Reps.ofInts:∀ (ns:List Int),Reps K G (ns.map V.int) (ns.map D.int)
 | []=>.nil
 | n::ns=>.cons (.int n) (Reps.ofInts ns)
theorem Reps.strs:∀ {vs:List V} {ns:List Str},Reps K G vs (ns.map D.str)->vs=ns.map V.str
 | _,[],.nil=>rfl
 | _,n::ns,.cons (.str _) r=>ya8 (V.str n :: ·) (Reps.strs r)
end
inductive FM where
 | fz (d:D) | lst (ds:List D) | dK (kvs:List (Key×D)) | dT (kvs:List (List Key×D))
inductive Sh where
 | tup | dL (ks:List Key)
inductive ShO:Sh->List V->HO->Prop
 | tup {vs:List V} {o:Obj} {its:Array Value} {n:Nat} (c:o.cls=.type "tuple") (d:o.dict=none) (e:o.data=.seq its n):ShO .tup vs (.frz o (.tup vs))
 | dL {ks:List Key} {vs:List V} (l:ks.length=vs.length):ShO (.dL ks) vs (.dK (ks.zip vs))
inductive zjP where
 | fz (d:D) | lst (ts:List zjP) | tup (ts:List zjP)
inductive M where
 | fz (d:D) | lst (ds:List D) | dK (kvs:List (Key×D)) | dT (kvs:List (List Key×D))
 | lk (a:Addr) (o:Obj) (kvs:List (List Key×V)) (kds:List (List Key×D))
 | dA (a:Addr) (kvs:List (Key×D))
 | ob (C dx:Addr) (fs:List (Str×V×FM))
 | bx (s:Sh) (ms:List FM)
 | dq (t:zjP)
def M.d:M->D
 | .fz d=>d
 | .lst ds=>.lst ds
 | .dK kvs=>.dK kvs
 | .dT kvs=>.dT kvs
 | .lk _ _ _ _=>.opq
 | .dA _ kvs=>.dK kvs
 | .ob _ _ _=>.opq
 | .bx _ _=>.opq
 | .dq _=>.opq
def FM.m:FM->M
 | .fz d=>.fz d
 | .lst ds=>.lst ds
 | .dK kvs=>.dK kvs
 | .dT kvs=>.dT kvs
def hid (H:Hp) (F:List Addr):Hp:=λa=>if a∈F then none else H a
theorem zpU {H:Hp} {F:List Addr}:Ex (hid H F) H:=.of λa o h=>by
 unfold hid at h
 split at h
 ·cases h
 ·exact h
theorem zdc {H:Hp} {F:List Addr} {a:Addr} (h:a∉F):hid H F a=H a:=yaz h
theorem zfN {H:Hp} {F:List Addr} {a:Addr} (h:a∈F):hid H F a=none:=yaw h
theorem zjQ {H:Hp} {F F':List Addr} (h:∀ a,a∈F↔a∈F'):hid H F=hid H F':=by
 funext a
 unfold hid
 by_cases e:a∈F
 ·rw [yaw e,yaw ((h a).mp e)]
 ·rw [yaz e,yaz λz=>e ((h a).mpr z)]
theorem zjn {H:Hp} {F F':List Addr} (h:∀ a,a∈F'->a∈F):Ex (hid H F) (hid H F'):=.of λa o e=>by
 by_cases z:a∈F
 ·rw [zfN z] at e
  cases e
 ·rw [zdc z] at e
  rw [zdc λy=>z (h a y)]
  exact e
section
variable (K:PySem.W.Frag) (G H:Hp)
inductive Own0:V->FM->List Addr->Prop
 | fz {v:V} {d:D} (h:Rep K G v d):Own0 v (.fz d) []
 | lst {p:Addr} {vs:List V} {ds:List D} (h:H p=some (.lst vs)) (r:Reps K G vs ds):Own0 (.ref p) (.lst ds) [p]
 | dK {p:Addr} {kvs:List (Key×V)} {kds:List (Key×D)} (h:H p=some (.dK kvs)) (r:RepK K G kvs kds):Own0 (.ref p) (.dK kds) [p]
 | dT {p:Addr} {kvs:List (List Key×V)} {kds:List (List Key×D)} (h:H p=some (.dT kvs)) (r:RepT K G kvs kds):Own0 (.ref p) (.dT kds) [p]
inductive HeldsF:List (Str×V×FM)->List Addr->Prop
 | nil:HeldsF [] []
 | cons {f:Str} {v:V} {m:FM} {L:List (Str×V×FM)} {F1 F2:List Addr} (h:Own0 K G H v m F1) (r:HeldsF L F2):HeldsF ((f,v,m)::L) (F1++F2)
inductive OwnT:List V->List zjP->List Addr->Prop
 | nil:OwnT [] [] []
 | fz {v:V} {d:D} {vs:List V} {ts:List zjP} {F:List Addr} (h:Rep K G v d) (r:OwnT vs ts F):OwnT (v::vs) (.fz d::ts) F
 | lst {p:Addr} {ws vs:List V} {us ts:List zjP} {F1 F2:List Addr} (h:H p=some (.lst ws)) (i:OwnT ws us F1) (r:OwnT vs ts F2):OwnT (.ref p::vs) (.lst us::ts) (p::(F1++F2))
 | tup {p:Addr} {o:Obj} {its:Array Value} {n:Nat} {ws vs:List V} {us ts:List zjP} {F1 F2:List Addr} (h:H p=some (.frz o (.tup ws))) (k:zfM ws=false) (c:o.cls=.type "tuple") (dn:o.dict=none) (e:o.data=.seq its n) (i:OwnT ws us F1) (r:OwnT vs ts F2):OwnT (.ref p::vs) (.tup us::ts) (p::(F1++F2))
inductive Own:V->M->List Addr->Prop
 | fz {v:V} {d:D} (h:Rep K G v d):Own v (.fz d) []
 | lst {p:Addr} {vs:List V} {ds:List D} (h:H p=some (.lst vs)) (r:Reps K G vs ds):Own (.ref p) (.lst ds) [p]
 | dK {p:Addr} {kvs:List (Key×V)} {kds:List (Key×D)} (h:H p=some (.dK kvs)) (r:RepK K G kvs kds):Own (.ref p) (.dK kds) [p]
 | dT {p:Addr} {kvs:List (List Key×V)} {kds:List (List Key×D)} (h:H p=some (.dT kvs)) (r:RepT K G kvs kds):Own (.ref p) (.dT kds) [p]
 | lk {p:Addr} {o:Obj} {kvs:List (List Key×V)} {kds:List (List Key×D)} (h:H p=some (.frz o (.dT kvs))) (r:RepT K G kvs kds):Own (.ref p) (.lk p o kvs kds) [p]
 | dA {p:Addr} {kvs:List (Key×V)} {kds:List (Key×D)} (h:H p=some (.dK kvs)) (r:RepK K G kvs kds):Own (.ref p) (.dA p kds) [p]
 | ob {p C dx:Addr} {fs:List (Str×V×FM)} {F:List Addr} (h:H p=some (.ins C dx (fs.map λx=>(x.1,x.2.1)))) (r:HeldsF K G H fs F):Own (.ref p) (.ob C dx fs) (p::F)
 | bx {p:Addr} {s:Sh} {ms:List FM} {fs:List (Str×V×FM)} {u:HO} {F:List Addr} (e:fs.map (λx=>x.2.2)=ms) (h:H p=some u) (k:ShO s (fs.map λx=>x.2.1) u) (r:HeldsF K G H fs F):Own (.ref p) (.bx s ms) (p::F)
 | dq {v:V} {t:zjP} {F:List Addr} (h:OwnT K G H [v] [t] F):Own v (.dq t) F
inductive Helds:List (V×M)->List Addr->Prop
 | nil:Helds [] []
 | cons {v:V} {m:M} {L:List (V×M)} {F1 F2:List Addr} (h:Own K G H v m F1) (r:Helds L F2):Helds ((v,m)::L) (F1++F2)
end
section
variable {K:PySem.W.Frag} {G G' H H':Hp}
theorem OwnT.mono {vs:List V} {ts:List zjP} {F:List Addr} (h:OwnT K G H vs ts F) (e:Ex G G'):(∀ a∈F,H' a=H a)->OwnT K G' H' vs ts F:=by
 induction h with
 | nil=>exact λ_=>.nil
 | fz h r ih=>exact λk=>.fz (h.mono e) (ih k)
 | lst h i r ih1 ih2=>exact λk=>.lst (by rw [k _ (by simp)]; exact h) (ih1 λa z=>k a (by simp [z])) (ih2 λa z=>k a (by simp [z]))
 | tup h kk c dn e' i r ih1 ih2=>exact λk=>.tup (by rw [k _ (by simp)]; exact h) kk c dn e' (ih1 λa z=>k a (by simp [z])) (ih2 λa z=>k a (by simp [z]))
theorem OwnT.there {vs:List V} {ts:List zjP} {F:List Addr} (h:OwnT K G H vs ts F):∀ a∈F,∃ o,H a=some o:=by
 induction h with
 | nil=>exact λ_ z=>nomatch z
 | fz h r ih=>exact ih
 | lst h i r ih1 ih2 =>
   intro a z
   rcases yap.mp z with rfl | z
   ·exact ⟨_,h⟩
   ·exact (yay.mp z).elim (ih1 a) (ih2 a)
 | tup h kk c dn e' i r ih1 ih2 =>
   intro a z
   rcases yap.mp z with rfl | z
   ·exact ⟨_,h⟩
   ·exact (yay.mp z).elim (ih1 a) (ih2 a)
theorem OwnT.what {vs:List V} {ts:List zjP} {F:List Addr} (h:OwnT K G H vs ts F):∀ a∈F,(∃ ws,H a=some (.lst ws))\/∃ o ws,H a=some (.frz o (.tup ws)):=by
 induction h with
 | nil=>exact λ_ z=>nomatch z
 | fz h r ih=>exact ih
 | lst h i r ih1 ih2 =>
   intro a z
   rcases yap.mp z with rfl | z
   ·exact .inl ⟨_,h⟩
   ·exact (yay.mp z).elim (ih1 a) (ih2 a)
 | tup h kk c dn e' i r ih1 ih2 =>
   intro a z
   rcases yap.mp z with rfl | z
   ·exact .inr ⟨_,_,h⟩
   ·exact (yay.mp z).elim (ih1 a) (ih2 a)
theorem Own0.mono {v:V} {m:FM} {F:List Addr} (h:Own0 K G H v m F) (e:Ex G G') (k:∀ a∈F,H' a=H a):Own0 K G' H' v m F:=by
 cases h with
 | fz h=>exact .fz (h.mono e)
 | lst h r=>exact .lst (by rw [k _ (by simp)]; exact h) (r.mono e)
 | dK h r=>exact .dK (by rw [k _ (by simp)]; exact h) (r.mono e)
 | dT h r=>exact .dT (by rw [k _ (by simp)]; exact h) (r.mono e)
theorem Own0.there {v:V} {m:FM} {F:List Addr} (h:Own0 K G H v m F):∀ a∈F,∃ o,H a=some o:=by
 cases h with
 | fz h=>exact λ_ z=>nomatch z
 | lst h r=>exact λa z=>by simp at z; exact ⟨_,z▸h⟩
 | dK h r=>exact λa z=>by simp at z; exact ⟨_,z▸h⟩
 | dT h r=>exact λa z=>by simp at z; exact ⟨_,z▸h⟩
theorem Own0.noTup {v:V} {m:FM} {F:List Addr} (h:Own0 K G H v m F):∀ a∈F,∀ vs,H a≠some (.tup vs):=by
 intro a z vs e
 cases h with
 | fz _=>cases z
 | lst h _=>cases yah.mp z; rw [h] at e; cases e
 | dK h _=>cases yah.mp z; rw [h] at e; cases e
 | dT h _=>cases yah.mp z; rw [h] at e; cases e
theorem Own0.own {v:V} {m:FM} {F:List Addr} (h:Own0 K G H v m F):Own K G H v m.m F:=by
 cases h with
 | fz h=>exact .fz h
 | lst h r=>exact .lst h r
 | dK h r=>exact .dK h r
 | dT h r=>exact .dT h r
theorem Own0.of {v:V} {m:FM} {F:List Addr} (h:Own K G H v m.m F):Own0 K G H v m F:=by
 cases m<;>cases h
 ·exact .fz ‹_›
 ·exact .lst ‹_› ‹_›
 ·exact .dK ‹_› ‹_›
 ·exact .dT ‹_› ‹_›
theorem HeldsF.mono {L:List (Str×V×FM)} {F:List Addr} (h:HeldsF K G H L F) (e:Ex G G'):(∀ a∈F,H' a=H a)->HeldsF K G' H' L F:=by
 induction h with
 | nil=>exact λ_=>.nil
 | cons h r ih=>exact λk=>.cons (h.mono e λa z=>k a (yai _ z)) (ih λa z=>k a (yag _ z))
theorem HeldsF.there {L:List (Str×V×FM)} {F:List Addr} (h:HeldsF K G H L F):∀ a∈F,∃ o,H a=some o:=by
 induction h with
 | nil=>exact λ_ z=>nomatch z
 | cons h r ih=>exact λa z=>(yay.mp z).elim (h.there a) (ih a)
theorem HeldsF.noTup {L:List (Str×V×FM)} {F:List Addr} (h:HeldsF K G H L F):∀ a∈F,∀ vs,H a≠some (.tup vs):=by
 induction h with
 | nil=>exact λ_ z=>nomatch z
 | cons h r ih=>exact λa z=>(yay.mp z).elim (h.noTup a) (ih a)
theorem HeldsF.mem {L:List (Str×V×FM)} {F:List Addr} (h:HeldsF K G H L F):∀ x∈L,∃ F1,Own0 K G H x.2.1 x.2.2 F1:=by
 induction h with
 | nil=>exact λ_ z=>nomatch z
 | cons h r ih =>
   intro x z
   rcases yap.mp z with e | z
   ·subst e
    exact ⟨_,h⟩
   ·exact ih x z
theorem Own.mono {v:V} {m:M} {F:List Addr} (h:Own K G H v m F) (e:Ex G G') (k:∀ a∈F,H' a=H a):Own K G' H' v m F:=by
 cases h with
 | fz h=>exact .fz (h.mono e)
 | lst h r=>exact .lst (by rw [k _ (by simp)]; exact h) (r.mono e)
 | dK h r=>exact .dK (by rw [k _ (by simp)]; exact h) (r.mono e)
 | dT h r=>exact .dT (by rw [k _ (by simp)]; exact h) (r.mono e)
 | lk h r=>exact .lk (by rw [k _ (by simp)]; exact h) (r.mono e)
 | dA h r=>exact .dA (by rw [k _ (by simp)]; exact h) (r.mono e)
 | ob h r=>exact .ob (by rw [k _ (by simp)]; exact h) (r.mono e λa z=>k a (yab _ z))
 | bx e0 h k0 r=>exact .bx e0 (by rw [k _ (by simp)]; exact h) k0 (r.mono e λa z=>k a (yab _ z))
 | dq h=>exact .dq (h.mono e k)
theorem Own.there {v:V} {m:M} {F:List Addr} (h:Own K G H v m F):∀ a∈F,∃ o,H a=some o:=by
 cases h with
 | fz h=>exact λ_ z=>nomatch z
 | lst h r=>exact λa z=>by simp at z; exact ⟨_,z▸h⟩
 | dK h r=>exact λa z=>by simp at z; exact ⟨_,z▸h⟩
 | dT h r=>exact λa z=>by simp at z; exact ⟨_,z▸h⟩
 | lk h r=>exact λa z=>by simp at z; exact ⟨_,z▸h⟩
 | dA h r=>exact λa z=>by simp at z; exact ⟨_,z▸h⟩
 | ob h r=>exact λa z=>(yap.mp z).elim (λz=>⟨_,z▸h⟩) (r.there a)
 | bx _ h _ r=>exact λa z=>(yap.mp z).elim (λz=>⟨_,z▸h⟩) (r.there a)
 | dq h=>exact h.there
theorem Helds.mono {L:List (V×M)} {F:List Addr} (h:Helds K G H L F) (e:Ex G G'):(∀ a∈F,H' a=H a)->Helds K G' H' L F:=by
 induction h with
 | nil=>exact λ_=>.nil
 | cons h r ih=>exact λk=>.cons (h.mono e λa z=>k a (yai _ z)) (ih λa z=>k a (yag _ z))
theorem Helds.there {L:List (V×M)} {F:List Addr} (h:Helds K G H L F):∀ a∈F,∃ o,H a=some o:=by
 induction h with
 | nil=>exact λ_ z=>nomatch z
 | cons h r ih=>exact λa z=>(yay.mp z).elim (h.there a) (ih a)
theorem Helds.perm {L L':List (V×M)} (p:L.Perm L'):∀ {F:List Addr},Helds K G H L F->∃ F',F.Perm F'/\Helds K G H L' F':=by
 induction p with
 | nil=>exact λh=>⟨_,.refl _,h⟩
 | cons x p ih =>
   intro F h
   cases h with
   | cons h r =>
     obtain ⟨F',q,r'⟩:=ih r
     exact ⟨_,q.append_left _,.cons h r'⟩
 | swap x y l =>
   intro F h
   cases h with
   | cons h r =>
     cases r with
     | cons h' r =>
       refine ⟨_,?_,.cons h' (.cons h r)⟩
       rw [← yae,← yae]
       exact yaC.append_right _
 | trans _ _ ih1 ih2 =>
   intro F h
   obtain ⟨F1,q1,h1⟩:=ih1 h
   obtain ⟨F2,q2,h2⟩:=ih2 h1
   exact ⟨F2,q1.trans q2,h2⟩
theorem Helds.append {L L':List (V×M)} {F F':List Addr} (h:Helds K G H L F) (h':Helds K G H L' F'):Helds K G H (L++L') (F++F'):=by
 induction h with
 | nil=>exact h'
 | cons h r ih =>
   rw [yae]
   exact .cons h ih
theorem Helds.split {L L':List (V×M)}:∀ {F:List Addr},Helds K G H (L++L') F->∃ F1 F2,F=F1++F2/\Helds K G H L F1/\Helds K G H L' F2:=by
 induction L with
 | nil=>exact λh=>⟨[],_,rfl,.nil,h⟩
 | cons x L ih =>
   intro F h
   cases h with
   | cons h r =>
     obtain ⟨F1,F2,e,h1,h2⟩:=ih r
     subst e
     exact ⟨_,_,(yae _ _ _).symm,.cons h h1,h2⟩
end
def Sep (K:PySem.W.Frag) (H:Hp) (L:List (V×M)):Prop:=∃ F:List Addr,F.Nodup/\Helds K (hid H F) H L F
section
variable {K:PySem.W.Frag} {H:Hp} {L L':List (V×M)}
theorem Sep.perm (h:Sep K H L) (p:L.Perm L'):Sep K H L':=by
 obtain ⟨F,nd,q⟩:=h
 obtain ⟨F',e,q'⟩:=q.perm p
 refine ⟨F',e.nodup nd,?_⟩
 rw [← zjQ λa=>e.mem_iff]
 exact q'
theorem Sep.left (h:Sep K H (L++L')):Sep K H L:=by
 obtain ⟨F,nd,q⟩:=h
 obtain ⟨F1,F2,e,q1,_⟩:=q.split
 subst e
 exact ⟨F1,(ybg.mp nd).1,q1.mono (zjn λa z=>yai _ z) λ_ _=>rfl⟩
theorem Sep.right (h:Sep K H (L++L')):Sep K H L':=(h.perm yaC).left
theorem Sep.tail {x:V×M} (h:Sep K H (x::L)):Sep K H L:=Sep.right (L:=[x]) h
theorem Sep.of_perm (h:Sep K H L) {L2 R:List (V×M)} (p:L.Perm (L2++R)):Sep K H L2:=(h.perm p).left
end
theorem Helds.mem {K:PySem.W.Frag} {G H:Hp} {L:List (V×M)} {F:List Addr} (h:Helds K G H L F):∀ p∈L,∃ F1,Own K G H p.1 p.2 F1/\∀ a∈F1,a∈F:=by
 induction h with
 | nil=>exact λ_ z=>nomatch z
 | cons h r ih =>
   intro p z
   rcases yap.mp z with e | z
   ·subst e
    exact ⟨_,h,λa y=>yai _ y⟩
   ·obtain ⟨F1,h1,h2⟩:=ih p z
    exact ⟨F1,h1,λa y=>yag _ (h2 a y)⟩
inductive zh9 (K:PySem.W.Frag) (G H:Hp):M->V->Hp->Prop
 | same {v:V} {d:D} (h:Rep K G v d):zh9 K G H (.fz d) v H
 | tup {p:Addr} {vs:List V} {ds:List D} {o:HO} (n:H p=none) (t:TupO vs o) (r:Reps K G vs ds):zh9 K G H (.fz (.tup ds)) (.ref p) (upd H p o)
 | lst {p:Addr} {vs:List V} {ds:List D} (n:H p=none) (r:Reps K G vs ds):zh9 K G H (.lst ds) (.ref p) (upd H p (.lst vs))
 | dK {p:Addr} {kvs:List (Key×V)} {kds:List (Key×D)} (n:H p=none) (r:RepK K G kvs kds):zh9 K G H (.dK kds) (.ref p) (upd H p (.dK kvs))
 | dT {p:Addr} {kvs:List (List Key×V)} {kds:List (List Key×D)} (n:H p=none) (r:RepT K G kvs kds):zh9 K G H (.dT kds) (.ref p) (upd H p (.dT kvs))
theorem Helds.fresh {K:PySem.W.Frag} {G G' H:Hp} {L:List (V×M)} {F:List Addr} {p:Addr} {o:HO} (h:Helds K G H L F) (n:H p=none) (e:Ex G G'):Helds K G' (upd H p o) L F :=
 h.mono e λa z=>by
  obtain ⟨u,hu⟩:=h.there a z
  rw [upd_ne (ne_of_none hu n)]
theorem zg4 {K:PySem.W.Frag} {G H:Hp} {L:List (V×M)} {F:List Addr} {p:Addr} (h:Helds K G H L F) (n:H p=none):p∉F:=λz=>by
 obtain ⟨u,hu⟩:=h.there p z
 rw [n] at hu
 cases hu
def zoW:M->List (V×M)
 | .ob _ _ fs=>fs.map λx=>(x.2.1,x.2.2.m)
 | _=>[]
def exL (L:List (V×M)):List (V×M):=L++L.flatMap λp=>zoW p.2
theorem ziR {L:List (V×M)} {p:V×M} (h:p∈L):p∈exL L:=yai _ h
theorem zxZ {L:List (V×M)} {v:V} {C dx:Addr} {fs:List (Str×V×FM)} (h:(v,M.ob C dx fs)∈L) {x:Str×V×FM} (hx:x∈fs):(x.2.1,x.2.2.m)∈exL L :=
 yag _ (ybf.mpr ⟨_,h,yan.mpr ⟨x,hx,rfl⟩⟩)
theorem zoX {L L':List (V×M)} (h:∀ p∈L,p∈L') {p:V×M} (z:p∈exL L):p∈exL L':=by
 rcases yay.mp z with z | z
 ·exact ziR (h p z)
 ·obtain ⟨q,hq,z⟩:=ybf.mp z
  exact yag _ (ybf.mpr ⟨q,h q hq,z⟩)
theorem zjo {L:List (V×M)} {x p:V×M} (z:p∈exL (x::L)):p=x\/p∈zoW x.2\/p∈exL L:=by
 rcases yay.mp z with z | z
 ·exact (yap.mp z).imp id λz=>.inr (ziR z)
 ·obtain ⟨q,hq,hz⟩:=ybf.mp z
  rcases yap.mp hq with e | hq
  ·exact .inr (.inl (e▸hz))
  ·exact .inr (.inr (yag _ (ybf.mpr ⟨q,hq,hz⟩)))
theorem zjp {L L':List (V×M)} (h:L.Perm L') {p:V×M} (z:p∈exL L):p∈exL L':=zoX (λ_ y=>h.mem_iff.mp y) z
theorem Helds.memX {K:PySem.W.Frag} {G H:Hp} {L:List (V×M)} {F:List Addr} (q:Helds K G H L F):∀ p∈exL L,∃ F1,Own K G H p.1 p.2 F1:=λp z=>by
 rcases yay.mp z with z | z
 ·obtain ⟨F1,h1,_⟩:=q.mem p z
  exact ⟨F1,h1⟩
 ·obtain ⟨⟨v,m⟩,hq,z⟩:=ybf.mp z
  obtain ⟨F1,h1,_⟩:=q.mem _ hq
  cases h1 with
  | ob h r =>
    obtain ⟨x,hx,rfl⟩:=yan.mp z
    obtain ⟨F2,h2⟩:=r.mem x hx
    exact ⟨F2,h2.own⟩
  | fz _=>exact nomatch z
  | lst _ _=>exact nomatch z
  | dK _ _=>exact nomatch z
  | dT _ _=>exact nomatch z
  | lk _ _=>exact nomatch z
  | dA _ _=>exact nomatch z
  | bx _ _ _ _=>exact nomatch z
  | dq _=>exact nomatch z
structure Opn (K:PySem.W.Frag) (H:Hp) (L:List (V×M)) (G:Hp):Prop where
 ex:Ex G H
 own:∀ p∈L,∃ F,Own K G H p.1 p.2 F
 ownX:∀ p∈exL L,∃ F,Own K G H p.1 p.2 F
 res:∀ m v H',zh9 K G H m v H'->Sep K H' ((v,m)::L)
theorem Sep.opnF {K:PySem.W.Frag} {H:Hp} {L:List (V×M)} {F:List Addr} (nd:F.Nodup) (q:Helds K (hid H F) H L F):Opn K H L (hid H F):=by
 have own:∀ p∈L,∃ F1,Own K (hid H F) H p.1 p.2 F1:=λp z=>by
  obtain ⟨F1,h1,_⟩:=q.mem p z
  exact ⟨F1,h1⟩
 refine ⟨zpU,own,q.memX,λm v H' r => ?_⟩
 ·have up:∀ {p:Addr} {o:HO},H p=none->Ex (hid H F) (hid (upd H p o) F):=λ{p o} n=>.of λa u e=>by
   by_cases z:a∈F
   ·rw [zfN z] at e
    cases e
   ·rw [zdc z] at e ⊢
    rw [upd_ne (ne_of_none e n)]
    exact e
  have up2:∀ {p:Addr} {o:HO},H p=none->Ex (hid H F) (hid (upd H p o) ([p]++F)):=λ{p o} n=>.of λa u e=>by
   by_cases z:a∈F
   ·rw [zfN z] at e
    cases e
   ·rw [zdc z] at e
    have ap:a≠p:=ne_of_none e n
    rw [zdc (by simp [ap,z]),upd_ne ap]
    exact e
  cases r with
  | same h=>exact ⟨[]++F,nd,.cons (.fz h) q⟩
  | tup n t r =>
    rename_i p vs ds o
    have pF:=zg4 q n
    refine ⟨[]++F,nd,.cons (.fz (.tup ⟨o,?_,t⟩ (r.mono (up n)))) (q.fresh n (up n))⟩
    show hid _ F p=_
    rw [zdc pF]
    exact upd_same
  | lst n r =>
    rename_i p vs ds
    have pF:=zg4 q n
    exact ⟨[p]++F,ya9.mpr ⟨pF,nd⟩,.cons (.lst upd_same (r.mono (up2 n))) (q.fresh n (up2 n))⟩
  | dK n r =>
    rename_i p vs ds
    have pF:=zg4 q n
    exact ⟨[p]++F,ya9.mpr ⟨pF,nd⟩,.cons (.dK upd_same (r.mono (up2 n))) (q.fresh n (up2 n))⟩
  | dT n r =>
    rename_i p vs ds
    have pF:=zg4 q n
    exact ⟨[p]++F,ya9.mpr ⟨pF,nd⟩,.cons (.dT upd_same (r.mono (up2 n))) (q.fresh n (up2 n))⟩
theorem Sep.opn {K:PySem.W.Frag} {H:Hp} {L:List (V×M)} (h:Sep K H L):∃ G,Opn K H L G:=h.elim λ_ q=>⟨_,Sep.opnF q.1 q.2⟩
theorem Helds.noTup {K:PySem.W.Frag} {G H:Hp} {L:List (V×M)} {F:List Addr} (h:Helds K G H L F):∀ a∈F,∀ vs,H a≠some (.tup vs):=by
 induction h with
 | nil=>exact λ_ z=>nomatch z
 | cons h r ih =>
   intro a z vs e
   rcases yay.mp z with z | z
   ·cases h with
    | fz _=>cases z
    | lst h _=>cases yah.mp z; rw [h] at e; cases e
    | dK h _=>cases yah.mp z; rw [h] at e; cases e
    | dT h _=>cases yah.mp z; rw [h] at e; cases e
    | lk h _=>cases yah.mp z; rw [h] at e; cases e
    | dA h _=>cases yah.mp z; rw [h] at e; cases e
    | ob h r =>
      rcases yap.mp z with z | z
      ·cases z; rw [h] at e; cases e
      ·exact r.noTup a z vs e
    | bx _ h k r =>
      rcases yap.mp z with z | z
      ·cases z; rw [h] at e; cases e; cases k
      ·exact r.noTup a z vs e
    | dq h =>
      rcases h.what a z with ⟨ws,q⟩ | ⟨o,ws,q⟩<;>(rw [q] at e; cases e)
   ·exact ih a z vs e
theorem Own.rep {K:PySem.W.Frag} {G H G':Hp} {v:V} {m:M} {F:List Addr} (h:Own K G H v m F) (e:Ex G G') (k:∀ a∈F,∀ o,H a=some o->G' a=some o):Rep K G' v m.d:=by
 cases h with
 | fz h=>exact h.mono e
 | lst h r=>exact .lst (k _ (by simp) _ h) (r.mono e)
 | dK h r=>exact .dK (.inl (k _ (by simp) _ h)) (r.mono e)
 | dT h r=>exact .dT (.inl (k _ (by simp) _ h)) (r.mono e)
 | lk h r=>exact .opq _
 | dA h r=>exact .dK (.inl (k _ (by simp) _ h)) (r.mono e)
 | ob h r=>exact .opq _
 | bx _ _ _ _=>exact .opq _
 | dq _=>exact .opq _
def M.isP:M->Bool
 | .fz _=>false
 | .ob _ _ _=>false
 | .bx _ _=>false
 | .dq _=>false
 | _=>true
theorem Sep.freeze {K:PySem.W.Frag} {H:Hp} {L:List (V×M)} {v:V} {m:M} (h:Sep K H ((v,m)::L)):Sep K H ((v,.fz m.d)::L):=by
 obtain ⟨F,nd,q⟩:=h
 cases q with
 | cons h r =>
   rename_i F1 F2
   obtain ⟨n1,n2,n3⟩:=ybg.mp nd
   have e:Ex (hid H (F1++F2)) (hid H F2):=zjn λa z=>yag _ z
   refine ⟨[]++F2,n2,.cons (.fz (h.rep e λa z o y => ?_)) (r.mono e λ_ _=>rfl)⟩
   show hid H F2 a=_
   rw [zdc λw=>n3 a z a w rfl]
   exact y
theorem Sep.mut {K:PySem.W.Frag} {H:Hp} {L:List (V×M)} {v:V} {m:M} (h:Sep K H ((v,m)::L)) (hm:m.isP=true):∃ G p F,v=.ref p/\Own K G H v m F/\Ex G H/\(∀ q∈L,∃ F,Own K G H q.1 q.2 F) /\
 (∀ vs ds,Reps K G vs ds->Sep K (upd H p (.lst vs)) ((v,.lst ds)::L))/\(∀ vs ds,RepK K G vs ds->Sep K (upd H p (.dK vs)) ((v,.dK ds)::L))/\(∀ vs ds,RepT K G vs ds->Sep K (upd H p (.dT vs)) ((v,.dT ds)::L)):=by
 obtain ⟨F,nd,q⟩:=h
 cases q with
 | cons h r =>
   rename_i F1 F2
   obtain ⟨p,rfl,rfl⟩:∃ p,v=.ref p/\F1=[p]:=by
    cases h with
    | fz h=>cases hm
    | ob _ _=>cases hm
    | bx _ _ _ _=>cases hm
    | dq _=>cases hm
    | dA h r=>exact ⟨_,rfl,rfl⟩
    | lst h r=>exact ⟨_,rfl,rfl⟩
    | dK h r=>exact ⟨_,rfl,rfl⟩
    | dT h r=>exact ⟨_,rfl,rfl⟩
    | lk h r=>exact ⟨_,rfl,rfl⟩
   have pF:p∉F2:=(ya9.mp nd).1
   have same:∀ o,hid (upd H p o) ([p]++F2)=hid H ([p]++F2):=λo=>by
    funext a
    by_cases z:a∈[p]++F2
    ·rw [zfN z,zfN z]
    ·rw [zdc z,zdc z,upd_ne (by simp at z; exact z.1)]
   have rest:∀ o,Helds K (hid (upd H p o) ([p]++F2)) (upd H p o) L F2:=λo=>by
    rw [same o]
    exact r.mono (Ex.refl _) λa z=>upd_ne λy=>pF (y▸z)
   refine ⟨hid H ([p]++F2),p,[p],rfl,h,zpU,λq z => ?_,λvs ds r=>⟨[p]++F2,nd,.cons (.lst upd_same ?_) (rest _)⟩,λvs ds r=>⟨[p]++F2,nd,.cons (.dK upd_same ?_) (rest _)⟩,λvs ds r=>⟨[p]++F2,nd,.cons (.dT upd_same ?_) (rest _)⟩⟩
   ·obtain ⟨F1,h1,_⟩:=r.mem q z
    exact ⟨F1,h1⟩
   all_goals
    rw [same]
    exact r
inductive zrb (K:PySem.W.Frag) (G H:Hp) (p:Addr):M->Hp->Prop
 | lst {vs:List V} {ds:List D} (r:Reps K G vs ds):zrb K G H p (.lst ds) (upd H p (.lst vs))
 | dK {vs:List (Key×V)} {ds:List (Key×D)} (r:RepK K G vs ds):zrb K G H p (.dK ds) (upd H p (.dK vs))
 | dT {vs:List (List Key×V)} {ds:List (List Key×D)} (r:RepT K G vs ds):zrb K G H p (.dT ds) (upd H p (.dT vs))
theorem Sep.mutR {K:PySem.W.Frag} {H:Hp} {L:List (V×M)} {v:V} {m:M} (h:Sep K H ((v,m)::L)) (hm:m.isP=true):∃ G p F,v=.ref p/\Own K G H v m F/\Ex G H/\(∀ q∈exL L,∃ F,Own K G H q.1 q.2 F) /\
 ∀ m' H',zrb K G H p m' H'->∀ x d,Rep K G x d->Sep K H' ((x,.fz d)::(v,m')::L):=by
 obtain ⟨F,nd,q⟩:=h
 cases q with
 | cons h r =>
   rename_i F1 F2
   obtain ⟨p,rfl,rfl⟩:∃ p,v=.ref p/\F1=[p]:=by
    cases h with
    | fz h=>cases hm
    | ob _ _=>cases hm
    | bx _ _ _ _=>cases hm
    | dq _=>cases hm
    | dA h r=>exact ⟨_,rfl,rfl⟩
    | lst h r=>exact ⟨_,rfl,rfl⟩
    | dK h r=>exact ⟨_,rfl,rfl⟩
    | dT h r=>exact ⟨_,rfl,rfl⟩
    | lk h r=>exact ⟨_,rfl,rfl⟩
   have pF:p∉F2:=(ya9.mp nd).1
   have same:∀ o,hid (upd H p o) ([p]++F2)=hid H ([p]++F2):=λo=>by
    funext a
    by_cases z:a∈[p]++F2
    ·rw [zfN z,zfN z]
    ·rw [zdc z,zdc z,upd_ne (by simp at z; exact z.1)]
   have rest:∀ o,Helds K (hid (upd H p o) ([p]++F2)) (upd H p o) L F2:=λo=>by
    rw [same o]
    exact r.mono (Ex.refl _) λa z=>upd_ne λy=>pF (y▸z)
   refine ⟨hid H ([p]++F2),p,[p],rfl,h,zpU,r.memX,λm' H' mo x d rx => ?_⟩
   ·cases mo with
    | lst r'=>exact ⟨[]++([p]++F2),nd,.cons (.fz (by show Rep K (hid _ ([p]++F2)) x d; rw [same]; exact rx)) (.cons (.lst upd_same (by show Reps K (hid _ ([p]++F2)) _ _; rw [same]; exact r')) (rest _))⟩
    | dK r'=>exact ⟨[]++([p]++F2),nd,.cons (.fz (by show Rep K (hid _ ([p]++F2)) x d; rw [same]; exact rx)) (.cons (.dK upd_same (by show RepK K (hid _ ([p]++F2)) _ _; rw [same]; exact r')) (rest _))⟩
    | dT r'=>exact ⟨[]++([p]++F2),nd,.cons (.fz (by show Rep K (hid _ ([p]++F2)) x d; rw [same]; exact rx)) (.cons (.dT upd_same (by show RepT K (hid _ ([p]++F2)) _ _; rw [same]; exact r')) (rest _))⟩
abbrev En:=List (Option M)
def prs:List (Option V)->En->List (V×M)
 | some v::σ,some m::e=>(v,m)::prs σ e
 | none::σ,some _::e=>prs σ e
 | _::σ,none::e=>prs σ e
 | [],_=>[]
 | _::_,[]=>[]
def Al:List (Option V)->En->Prop
 | [],[]=>True
 | _::σ,none::e=>Al σ e
 | some _::σ,some _::e=>Al σ e
 | _,_=>False
theorem Al.length:∀ {σ:List (Option V)} {e:En},Al σ e->e.length=σ.length
 | [],[],_=>rfl
 | _::σ,none::e,h=>ya8 (· + 1) (Al.length (σ:=σ) (e:=e) h)
 | some _::σ,some _::e,h=>ya8 (· + 1) (Al.length (σ:=σ) (e:=e) h)
 | [],_::_,h=>h.elim
 | _::_,[],h=>by
   unfold Al at h
   first | exact h.elim | cases h
 | none::_,some _::_,h=>h.elim
theorem zdL (x:Option V) (σ:List (Option V)) (e:En):prs (x::σ) (none::e)=prs σ e:=by cases x<;>rfl
theorem ze5 (x:Option V) (σ:List (Option V)) (e:En):Al (x::σ) (none::e)=Al σ e:=by cases x<;>rfl
theorem Al.get:∀ {σ:List (Option V)} {e:En} {i:Nat} {m:M},Al σ e->e[i]?=some (some m)->∃ v,σ[i]?=some (some v)/\(prs σ e).Perm ((v,m)::prs σ (e.set i none))/\Al σ (e.set i none)
 | [],[],i,m,h,g=>by simp at g
 | [],_::_,_,_,h,_=>h.elim
 | _::_,[],_,_,h,g=>by simp at g
 | none::_,some _::_,_,_,h,_=>h.elim
 | x::σ,none::e,0,m,h,g=>by simp at g
 | x::σ,none::e,i+1,m,h,g=>by
   rw [ze5] at h
   obtain ⟨v,e1,p,a⟩:=Al.get (i:=i) h (by simpa using g)
   refine ⟨v,by simpa using e1,?_,?_⟩
   ·rw [ybw,zdL,zdL]
    exact p
   ·rw [ybw,ze5]
    exact a
 | some x::σ,some y::e,0,m,h,g=>by
   simp at g
   subst g
   exact ⟨x,rfl,.refl _,h⟩
 | some x::σ,some y::e,i+1,m,h,g=>by
   obtain ⟨v,e1,p,a⟩:=Al.get (σ:=σ) (e:=e) (i:=i) h (by simpa using g)
   refine ⟨v,by simpa using e1,?_,a⟩
   show ((x,y)::prs σ e).Perm ((v,m)::(x,y)::prs σ (e.set i none))
   exact (p.cons _).trans (.swap _ _ _)
theorem Al.put:∀ {σ:List (Option V)} {e:En} {i:Nat} {v:V} {m:M},Al σ e->i<e.length->(prs (σ.set i (some v)) (e.set i (some m))).Perm ((v,m)::prs σ (e.set i none))/\Al (σ.set i (some v)) (e.set i (some m))
 | [],[],i,v,m,h,g=>by simp at g
 | [],_::_,_,_,_,h,_=>h.elim
 | _::_,[],_,_,_,h,g=>by simp at g
 | none::_,some _::_,_,_,_,h,_=>h.elim
 | x::σ,none::e,0,v,m,h,g=>by
   rw [ze5] at h
   rw [ybx,ybx,ybx,zdL]
   exact ⟨.refl _,h⟩
 | some x::σ,some y::e,0,v,m,h,g=>⟨.refl _,h⟩
 | x::σ,none::e,i+1,v,m,h,g=>by
   rw [ze5] at h
   obtain ⟨p,a⟩:=Al.put (σ:=σ) (e:=e) (i:=i) (v:=v) (m:=m) h (by simpa using g)
   rw [ybw,ybw,ybw,zdL,zdL,ze5]
   exact ⟨p,a⟩
 | some x::σ,some y::e,i+1,v,m,h,g=>by
   obtain ⟨p,a⟩:=Al.put (σ:=σ) (e:=e) (i:=i) (v:=v) (m:=m) h (by simpa using g)
   refine ⟨?_,a⟩
   show ((x,y)::prs (σ.set i (some v)) (e.set i (some m))).Perm ((v,m)::(x,y)::prs σ (e.set i none))
   exact (p.cons _).trans (.swap _ _ _)
theorem Al.drop:∀ {σ:List (Option V)} {e:En} (i:Nat) (x:Option V),Al σ e->Al (σ.set i x) (e.set i none)/\∃ R,(prs σ e).Perm (prs (σ.set i x) (e.set i none)++R)
 | [],[],i,x,h=>⟨h,[],.refl _⟩
 | [],_::_,_,_,h=>h.elim
 | _::_,[],_,_,h=>by
   unfold Al at h
   first | exact h.elim | cases h
 | none::_,some _::_,_,_,h=>h.elim
 | y::σ,none::e,0,x,h=>by
   rw [ze5] at h
   rw [ybx,ybx,zdL,zdL,ze5]
   exact ⟨h,[],by simp⟩
 | some y::σ,some z::e,0,x,h=>by
   rw [ybx,ybx,zdL,ze5]
   refine ⟨h,[(y,z)],?_⟩
   show ((y,z)::prs σ e).Perm (prs σ e++[(y,z)])
   exact yaC (l₁:=[(y,z)])
 | y::σ,none::e,i+1,x,h=>by
   rw [ze5] at h
   obtain ⟨a,R,p⟩:=Al.drop (σ:=σ) (e:=e) i x h
   rw [ybw,ybw,zdL,zdL,ze5]
   exact ⟨a,R,p⟩
 | some y::σ,some z::e,i+1,x,h=>by
   obtain ⟨a,R,p⟩:=Al.drop (σ:=σ) (e:=e) i x h
   exact ⟨a,R,p.cons _⟩
def Ok (K:PySem.W.Frag) (H:Hp) (σ:List (Option V)) (e:En) (P:List (V×M)):Prop:=Al σ e/\Sep K H (prs σ e++P)
section
variable {K:PySem.W.Frag} {H H':Hp} {σ:List (Option V)} {e:En} {P P':List (V×M)} {v:V} {m:M} {i:Nat}
theorem zl2 {α:Type} {A B R P:List α} (q:A.Perm (B++R)):(A++P).Perm ((B++P)++R):=by
 refine (q.append_right P).trans ?_
 rw [yae,yae]
 exact yaC.append_left _
theorem Ok.perm (h:Ok K H σ e P) (p:P.Perm P'):Ok K H σ e P':=⟨h.1,h.2.perm (p.append_left _)⟩
theorem Ok.pop {x:V×M} (h:Ok K H σ e (x::P)):Ok K H σ e P:=⟨h.1,(h.2.perm (yad)).tail⟩
theorem Ok.pops (h:Ok K H σ e (P++P')):Ok K H σ e P':=by
 induction P with
 | nil=>exact h
 | cons x P ih=>exact ih h.pop
theorem Ok.peek (h:Ok K H σ e P) (g:e[i]?=some (some m)):∃ v,σ[i]?=some (some v)/\(v,m)∈prs σ e++P:=by
 obtain ⟨v,e1,p,_⟩:=h.1.get g
 exact ⟨v,e1,yai _ (p.mem_iff.mpr yaa)⟩
theorem Ok.take (h:Ok K H σ e P) (g:e[i]?=some (some m)):∃ v,σ[i]?=some (some v)/\Ok K H σ (e.set i none) ((v,m)::P):=by
 obtain ⟨v,e1,p,a⟩:=h.1.get g
 exact ⟨v,e1,a,h.2.perm ((p.append_right P).trans yad.symm)⟩
theorem Ok.give (h:Ok K H σ e ((v,m)::P)) (g:σ[i]?=some (some v)):Ok K H σ (e.set i (some m)) P:=by
 have hi:i<e.length:=by
  rw [h.1.length]
  exact (yal.mp g).1
 obtain ⟨p,a⟩:=h.1.put (v:=v) (m:=m) hi
 have es:σ.set i (some v)=σ:=by
  apply yaS
  intro j
  by_cases z:i=j
  ·subst z
   rw [yaM (by rw [← h.1.length]; exact hi),g]
  ·rw [yaK z]
 rw [es] at p a
 obtain ⟨_,R,q⟩:=h.1.drop i (some v)
 rw [es] at q
 refine ⟨a,?_⟩
 have h2:Sep K H (((v,m)::prs σ (e.set i none))++P):=by
  exact h.2.of_perm (R:=R) (yad.trans (List.Perm.cons _ (zl2 q)))
 exact h2.perm (p.symm.append_right P)
theorem Ok.store (h:Ok K H σ e ((v,m)::P)) (hi:i<e.length):Ok K H (σ.set i (some v)) (e.set i (some m)) P:=by
 obtain ⟨p,a⟩:=h.1.put (v:=v) (m:=m) hi
 refine ⟨a,?_⟩
 obtain ⟨_,R,q⟩:=h.1.drop (σ:=σ) i (σ.getD i none)
 have es:prs (σ.set i (σ.getD i none)) (e.set i none)=prs σ (e.set i none):=by
  congr 1
  apply yaS
  intro j
  by_cases z:i=j
  ·subst z
   by_cases y:i<σ.length
   ·rw [yaM y,yaO,yak y]
    rfl
   ·rw [ybK (by omega)]
  ·rw [yaK z]
 rw [es] at q
 have h2:Sep K H (((v,m)::prs σ (e.set i none))++P):=by
  exact h.2.of_perm (R:=R) (yad.trans (List.Perm.cons _ (zl2 q)))
 exact h2.perm (p.symm.append_right P)
theorem Ok.forget (h:Ok K H σ e P) (i:Nat) (x:Option V):Ok K H (σ.set i x) (e.set i none) P:=by
 obtain ⟨a,R,q⟩:=h.1.drop i x
 exact ⟨a,h.2.of_perm (R:=R) (zl2 q)⟩
end
structure Xn where
 cls:Str
 fld:Option (Str×D):=none
abbrev XQ:=Xn->En->Prop
abbrev WE:=En->(M->En->Prop)->XQ->Prop
abbrev WT:=En->(Bool->En->Prop)->XQ->Prop
inductive Opd where
 | pk (i:Nat) | vl (m:M)
 | fd (i:Nat) (f:Str) (v:V)
abbrev WO:=En->(Opd->En->Prop)->XQ->Prop
abbrev WA:=En->(List Opd->En->Prop)->XQ->Prop
structure zd3 where
 nx:En->Prop
 rt:M->En->Prop
 bk:En->Prop
 ct:En->Prop
 ex:XQ
abbrev WS:=zd3->En->Prop
abbrev WI:=En->(List D->En->Prop)->XQ->Prop
def zcp (w:WE):Prop:=∀ e Q Q' X X',(∀ m e,Q m e->Q' m e)->(∀ x e,X x e->X' x e)->w e Q X->w e Q' X'
def ze6 (w:WT):Prop:=∀ e Q Q' X X',(∀ m e,Q m e->Q' m e)->(∀ x e,X x e->X' x e)->w e Q X->w e Q' X'
def ze7 (w:WO):Prop:=∀ e Q Q' X X',(∀ m e,Q m e->Q' m e)->(∀ x e,X x e->X' x e)->w e Q X->w e Q' X'
def zfS (w:WA):Prop:=∀ e Q Q' X X',(∀ m e,Q m e->Q' m e)->(∀ x e,X x e->X' x e)->w e Q X->w e Q' X'
def zsd (w:WI):Prop:=∀ e Q Q' X X',(∀ m e,Q m e->Q' m e)->(∀ x e,X x e->X' x e)->w e Q X->w e Q' X'
structure zd3.Le (E E':zd3):Prop where
 nx:∀ e,E.nx e->E'.nx e
 rt:∀ m e,E.rt m e->E'.rt m e
 bk:∀ e,E.bk e->E'.bk e
 ct:∀ e,E.ct e->E'.ct e
 ex:∀ x e,E.ex x e->E'.ex x e
def zhr (w:WS):Prop:=∀ E E' e,E.Le E'->w E e->w E' e
structure Y where
 X:Cx
 xr:Xn->Value->Option Addr->Hp->Prop
 W:WX
def pend:Opd->V->List (V×M)
 | .vl m,v=>[(v,m)]
 | .pk _,_=>[]
 | .fd _ _ _,_=>[]
def pkOk (σ:L2.St):Opd->V->Prop
 | .vl _,_=>True
 | .pk i,v=>σ[i]?=some (some v)
 | .fd _ _ u,v=>v=u
def zc9:List Opd->List V->List (V×M)
 | a::as,v::vs=>zc9 as vs++pend a v
 | _,_=>[]
def zrc (σ:L2.St):List Opd->List V->Prop
 | a::as,v::vs=>pkOk σ a v/\zrc σ as vs
 | [],[]=>True
 | _,_=>False
def OkO (K:PySem.W.Frag) (H:Hp) (σ:L2.St) (e:En) (a:Opd) (v:V) (P:List (V×M)):Prop:=Ok K H σ e (pend a v++P)/\pkOk σ a v
def OkA (K:PySem.W.Frag) (H:Hp) (σ:L2.St) (e:En) (as:List Opd) (vs:List V) (P:List (V×M)):Prop:=Ok K H σ e (zc9 as vs++P)/\zrc σ as vs
section
variable (y:Y)
def zni (σ:L2.St) (P:List (V×M)):XQ:=λx e'=>∀ c d H',y.xr x c d H'->Ok y.X.K H' σ e' P->y.W c d σ H'
def zgK (w:WE):TE:=λσ H Q=>∃ e P,Ok y.X.K H σ e P/\w e (λm e'=>∀ v H',Ok y.X.K H' σ e' ((v,m)::P)->Q v H') (zni y σ P)
def zrd (w:WT):TT:=λσ H Q=>∃ e P,Ok y.X.K H σ e P/\w e (λb e'=>∀ H',Ok y.X.K H' σ e' P->Q b H') (zni y σ P)
def zl3 (w:WO):TE:=λσ H Q=>∃ e P,Ok y.X.K H σ e P/\w e (λa e'=>∀ v H',OkO y.X.K H' σ e' a v P->Q v H') (zni y σ P)
def znj (w:WA):TA:=λσ H Q=>∃ e P,Ok y.X.K H σ e P/\w e (λas e'=>∀ vs H',OkA y.X.K H' σ e' as vs P->Q vs H') (zni y σ P)
end
structure SE (y:Y) (e:Expr) (w:WE):Prop where
 run:PE y.X e (zgK y w)
 mono:zcp w
structure ST (y:Y) (e:Expr) (w:WT):Prop where
 run:PT y.X e (zrd y w)
 mono:ze6 w
structure STw (y:Y) (e:Expr) (w:WT):Prop where
 run:PW y.X e (zrd y w)
 mono:ze6 w
structure SO (y:Y) (e:Expr) (w:WO):Prop where
 run:PE y.X e (zl3 y w)
 mono:ze7 w
structure SA (y:Y) (es:List Expr) (w:WA):Prop where
 run:PA y.X es (znj y w)
 mono:zfS w
theorem zbb {X:Cx} {e:Expr} {t t':TE} (h:PE X e t) (i:∀ σ H Q,t' σ H Q->t σ H Q):PE X e t':=⟨λpins s σ H Q I q=>h.run pins s σ H Q I (i _ _ _ q)⟩
theorem zpV {X:Cx} {e:Expr} {t t':TT} (h:PT X e t) (i:∀ σ H Q,t' σ H Q->t σ H Q):PT X e t':=⟨λpins s σ H Q I q=>h.run pins s σ H Q I (i _ _ _ q)⟩
theorem zwY {X:Cx} {e:Expr} {t t':TT} (h:PW X e t) (i:∀ σ H Q,t' σ H Q->t σ H Q):PW X e t':=⟨λwh pins s σ H Q I q=>h.run wh pins s σ H Q I (i _ _ _ q)⟩
theorem zwZ {X:Cx} {e:List Expr} {t t':TA} (h:PA X e t) (i:∀ σ H Q,t' σ H Q->t σ H Q):PA X e t':=⟨λpos pins s σ H Q I q=>h.run pos pins s σ H Q I (i _ _ _ q)⟩
theorem zeB {X:Cx} {e:Stmt} {t t':TS} (h:PS X e t) (i:∀ D σ H,t' D σ H->t D σ H):PS X e t':=⟨λpins s σ H D I q=>h.run pins s σ H D I (i _ _ _ q)⟩
theorem zoY {X:Cx} {e:List Stmt} {t t':TS} (h:PSs X e t) (i:∀ D σ H,t' D σ H->t D σ H):PSs X e t':=⟨λpins s σ H D I q=>h.run pins s σ H D I (i _ _ _ q)⟩
theorem zw0 {X:Cx} {tg e:Expr} {t t':TI} (h:PI X tg e t) (i:∀ σ H R,t' σ H R->t σ H R):PI X tg e t':=⟨λpins s σ H R I q=>h.run pins s σ H R I (i _ _ _ q)⟩
def Owns (K:PySem.W.Frag) (G H:Hp):List V->List M->Prop
 | v::vs,m::ms=>(∃ F,Own K G H v m F)/\Owns K G H vs ms
 | [],[]=>True
 | _,_=>False
abbrev OP1:=M->(M->Prop)->Prop
abbrev OP2:=M->M->(M->Prop)->Prop
abbrev OPN:=List M->(M->Prop)->Prop
structure Snd1 (K:PySem.W.Frag) (r:V->Hp->VK->Prop) (op:OP1):Prop where
 run:∀ G H x mx F (Q:VK),Ex G H->Own K G H x mx F->op mx (λm=>∀ v H',zh9 K G H m v H'->Q v H')->r x H Q
 mono:∀ a (q q':M->Prop),(∀ m,q m->q' m)->op a q->op a q'
structure Snd2 (K:PySem.W.Frag) (r:R2) (op:OP2):Prop where
 run:∀ G H x y mx my F F' (Q:VK),Ex G H->Own K G H x mx F->Own K G H y my F'->op mx my (λm=>∀ v H',zh9 K G H m v H'->Q v H')->r x y H Q
 mono:∀ a b (q q':M->Prop),(∀ m,q m->q' m)->op a b q->op a b q'
structure SndN (K:PySem.W.Frag) (r:List V->Hp->VK->Prop) (op:OPN):Prop where
 run:∀ G H xs ms (Q:VK),Ex G H->Owns K G H xs ms->op ms (λm=>∀ v H',zh9 K G H m v H'->Q v H')->r xs H Q
 mono:∀ a (q q':M->Prop),(∀ m,q m->q' m)->op a q->op a q'
def fdO (o:Option (Option M)) (f:Str) (v:V) (k:M->Prop):Prop:=match o with
 | some (some (.ob _ _ fs))=>(match fs.lookup f with
   | some x=>x.1=v/\k x.2.m
   | none=>False)
 | _=>False
theorem zve {o:Option (Option M)} {f:Str} {v:V} {k k':M->Prop} (h:∀ m,k m->k' m) (q:fdO o f v k):fdO o f v k':=by
 unfold fdO at *
 split at q
 ·split at q
  ·exact ⟨q.1,h _ q.2⟩
  ·exact q.elim
 ·exact q.elim
theorem zlh {α:Type} {f:Str} {x:α}:∀ {fs:List (Str×α)},fs.lookup f=some x->∃ g,(g,x)∈fs
 | [],h=>by cases h
 | (g,z)::fs,h=>by
   rw [ybs] at h
   split at h
   ·cases h
    exact ⟨g,yaa⟩
   ·obtain ⟨g',h'⟩:=zlh h
    exact ⟨g',yab _ h'⟩
def zaS (a:Opd) (e:En) (k:M->Prop):Prop :=
 match a with
 | .vl m=>k m
 | .pk i=>match e[i]? with
   | some (some m)=>k m
   | _=>False
 | .fd i f v=>fdO e[i]? f v k
def zbQ:List Opd->En->(List M->Prop)->Prop
 | [],_,k=>k []
 | a::as,e,k=>zaS a e λm=>zbQ as e λms=>k (m::ms)
theorem zaF {a:Opd} {e:En} {k k':M->Prop} (h:∀ m,k m->k' m) (q:zaS a e k):zaS a e k':=by
 cases a with
 | vl m=>exact h m q
 | pk i =>
   unfold zaS at *
   dsimp only at *
   split at q
   ·rename_i e1
    exact h _ q
   ·exact q.elim
 | fd i f v=>exact zve h q
theorem zdA:∀ {as:List Opd} {e:En} {k k':List M->Prop},(∀ m,k m->k' m)->zbQ as e k->zbQ as e k'
 | [],_,_,_,h,q=>h _ q
 | a::as,_,_,_,h,q=>zaF (λm q=>zdA (λms q=>h _ q) q) q
section
variable {K:PySem.W.Frag} {H:Hp} {σ:L2.St} {e:En} {P:List (V×M)} {y:Y}
theorem zse {i:Nat} {f:Str} {v:V} {k:M->Prop} {R:List (V×M)} (h:Ok K H σ e R) (q:fdO e[i]? f v k):∃ m,(v,m)∈exL (prs σ e++R)/\k m:=by
 unfold fdO at q
 split at q
 ·rename_i fs e1
  split at q
  ·rename_i x ex
   obtain ⟨v',e2,hm⟩:=h.peek e1
   obtain ⟨g,hx⟩:=zlh ex
   obtain ⟨rfl,q⟩:=q
   exact ⟨_,zxZ hm hx,q⟩
  ·exact q.elim
 ·exact q.elim
theorem zb8 {a:Opd} {v:V} {k:M->Prop} (h:Ok K H σ e (pend a v++P)) (hp:pkOk σ a v) (q:zaS a e k):∃ m,(v,m)∈exL (prs σ e++(pend a v++P))/\k m:=by
 cases a with
 | vl m=>exact ⟨m,ziR (yag _ (yai _ yaa)),q⟩
 | fd i f u =>
   cases hp
   exact zse h q
 | pk i =>
   unfold zaS at q
   dsimp only at q
   split at q
   ·rename_i m e1
    obtain ⟨v',e2,hm⟩:=h.peek e1
    have e3:some (some v)=some (some v'):=hp.symm.trans e2
    cases e3
    exact ⟨m,ziR hm,q⟩
   ·exact q.elim
theorem za4 {a:Opd} {v:V} {k:M->Prop} {R:List (V×M)} (h:Ok K H σ e R) (hs:∀ p∈pend a v,p∈R) (hp:pkOk σ a v) (q:zaS a e k):∃ m,(v,m)∈exL (prs σ e++R)/\k m:=by
 cases a with
 | vl m=>exact ⟨m,ziR (yag _ (hs _ yaa)),q⟩
 | fd i f u =>
   cases hp
   exact zse h q
 | pk i =>
   unfold zaS at q
   dsimp only at q
   split at q
   ·rename_i m e1
    obtain ⟨v',e2,hm⟩:=h.peek e1
    have e3:some (some v)=some (some v'):=hp.symm.trans e2
    cases e3
    exact ⟨m,ziR hm,q⟩
   ·exact q.elim
theorem zgt:∀ {as:List Opd} {vs:List V} {k:List M->Prop} {R:List (V×M)} {G:Hp},Ok K H σ e R->Opn K H (prs σ e++R) G->(∀ p∈zc9 as vs,p∈R)->zrc σ as vs->zbQ as e k->∃ ms,Owns K G H vs ms/\k ms
 | [],[],_,_,_,_,_,_,_,q=>⟨[],trivial,q⟩
 | [],_::_,_,_,_,_,_,_,hp,_=>hp.elim
 | _::_,[],_,_,_,_,_,_,hp,_=>hp.elim
 | a::as,v::vs,k,R,G,h,g,hs,hp,q=>by
   obtain ⟨m,hm,q⟩:=za4 h (λp z=>hs p (yag _ z)) hp.1 q
   obtain ⟨ms,ho,q⟩:=zgt h g (λp z=>hs p (yai _ z)) hp.2 q
   exact ⟨m::ms,⟨g.ownX _ hm,ho⟩,q⟩
theorem Opn.fin {G H':Hp} {R:List (V×M)} {m:M} {v:V} (g:Opn K H (prs σ e++(R++P)) G) (a:Al σ e) (r:zh9 K G H m v H'):Ok K H' σ e ((v,m)::P):=by
 refine ⟨a,(g.res m v H' r).of_perm (R:=R) ?_⟩
 refine List.Perm.trans ?_ ((yad.symm.append_right R))
 refine List.Perm.cons _ ?_
 show List.Perm _ ((prs σ e++P)++R)
 rw [yae]
 exact (yaC).append_left _
end
def w1 (op:OP1) (o:WO):WE:=λe Q X=>o e (λa e1=>zaS a e1 λma=>op ma λm=>Q m e1) X
def w2 (op:OP2) (o1 o2:WO):WE:=λe Q X=>o1 e (λa e1=>o2 e1 (λb e2=>zaS a e2 λma=>zaS b e2 λmb=>op ma mb λm=>Q m e2) X) X
def wN (op:OPN) (wa:WA):WE:=λe Q X=>wa e (λas e1=>zbQ as e1 λms=>op ms λm=>Q m e1) X
section
variable {y:Y} {a b:Expr} {oa ob:WO} {op:OP2} {r:R2}
theorem zx0 {op:OP1} {o:WO} {K:PySem.W.Frag} {r:V->Hp->VK->Prop} (hs:Snd1 K r op) (ho:ze7 o):zcp (w1 op o):=λe Q Q' X X' hq hx q =>
 ho e _ _ _ _ (λa e1 q=>zaF (λma q=>hs.mono _ _ _ (λm q=>hq m e1 q) q) q) hx q
theorem zjR {K:PySem.W.Frag} (hs:Snd2 K r op) (ha:ze7 oa) (hb:ze7 ob):zcp (w2 op oa ob):=λe Q Q' X X' hq hx q =>
 ha e _ _ _ _ (λa e1 q=>hb e1 _ _ _ _ (λb e2 q=>zaF (λma q=>zaF (λmb q=>hs.mono _ _ _ _ (λm q=>hq m e2 q) q) q) q) hx q) hx q
theorem zl4 {op:OPN} {wa:WA} {K:PySem.W.Frag} {r:List V->Hp->VK->Prop} (hs:SndN K r op) (ho:zfS wa):zcp (wN op wa):=λe Q Q' X X' hq hx q =>
 ho e _ _ _ _ (λa e1 q=>zdA (λma q=>hs.mono _ _ _ (λm q=>hq m e1 q) q) q) hx q
theorem zcq {a:Opd} {v:V} {σ:L2.St} {P:List (V×M)} {x:Xn} {e':En} (h:zni y σ P x e'):zni y σ (pend a v++P) x e':=λc d H' r o=>h c d H' r o.pops
theorem lift1 {op:OP1} {o:WO} {r:V->Hp->VK->Prop} (hs:Snd1 y.X.K r op) (ho:ze7 o) (σ:L2.St) (H:Hp) (Q:VK) (h:zgK y (w1 op o) σ H Q):zl3 y o σ H λx H1=>r x H1 Q:=by
 obtain ⟨e,P,h0,h⟩:=h
 refine ⟨e,P,h0,ho e _ _ _ _ (λa e1 q v H1 o1 => ?_) (λ_ _ q=>q) h⟩
 obtain ⟨o1,p1⟩:=o1
 obtain ⟨ma,m1,q⟩:=zb8 o1 p1 q
 obtain ⟨G,g⟩:=o1.2.opn
 obtain ⟨F1,w1⟩:=g.ownX _ m1
 exact hs.run G H1 v ma F1 Q g.ex w1 (hs.mono _ _ _ (λm q v' H' r'=>q v' H' (g.fin o1.1 r')) q)
theorem zvf (hs:Snd2 y.X.K r op) (ha:ze7 oa) (hb:ze7 ob) (σ:L2.St) (H:Hp) (Q:VK) (h:zgK y (w2 op oa ob) σ H Q):tOp r (zl3 y oa) (zl3 y ob) σ H Q:=by
 obtain ⟨e,P,h0,h⟩:=h
 refine ⟨e,P,h0,ha e _ _ _ _ (λa e1 q v H1 o1 => ?_) (λ_ _ q=>q) h⟩
 obtain ⟨o1,p1⟩:=o1
 refine ⟨e1,pend a v++P,o1,hb e1 _ _ _ _ (λb e2 q u H2 o2 => ?_) (λ_ _ q=>zcq q) q⟩
 obtain ⟨o2,p2⟩:=o2
 obtain ⟨ma,m1,q⟩:=za4 o2 (λp z=>yag _ (yai _ z)) p1 q
 obtain ⟨mb,m2,q⟩:=zb8 o2 p2 q
 obtain ⟨G,g⟩:=o2.2.opn
 obtain ⟨F1,w1⟩:=g.ownX _ m1
 obtain ⟨F2,w2⟩:=g.ownX _ m2
 rw [show pend b u++(pend a v++P)=(pend b u++pend a v)++P from (yae _ _ _).symm] at g
 exact hs.run G H2 v u ma mb F1 F2 Q g.ex w1 w2 (hs.mono _ _ _ _ (λm q v' H' r'=>q v' H' (g.fin o2.1 r')) q)
theorem zvg {op:OPN} {wa:WA} {r:List V->Hp->VK->Prop} (hs:SndN y.X.K r op) (ho:zfS wa) (σ:L2.St) (H:Hp) (Q:VK) (h:zgK y (wN op wa) σ H Q):znj y wa σ H λxs H1=>r xs H1 Q:=by
 obtain ⟨e,P,h0,h⟩:=h
 refine ⟨e,P,h0,ho e _ _ _ _ (λas e1 q vs H1 o1 => ?_) (λ_ _ q=>q) h⟩
 obtain ⟨o1,p1⟩:=o1
 obtain ⟨G,g⟩:=o1.2.opn
 obtain ⟨ms,m1,q⟩:=zgt o1 g (λp z=>yai _ z) p1 q
 exact hs.run G H1 vs ms Q g.ex m1 (hs.mono _ _ _ (λm q v' H' r'=>q v' H' (g.fin o1.1 r')) q)
end
def oVal (w:WE):WO:=λe Q X=>w e (λm e'=>Q (.vl m) e') X
def oFz (w:WE):WO:=λe Q X=>w e (λm e'=>Q (.vl (.fz m.d)) e') X
def oPk (i:Nat):WO:=λe Q _=>match e[i]? with
 | some (some _)=>Q (.pk i) e
 | _=>False
def wVar (i:Nat):WE:=λe Q _=>match e[i]? with
 | some (some m)=>Q (.fz m.d) (e.set i (some (.fz m.d)))
 | _=>False
def wC (d:D):WE:=λe Q _=>Q (.fz d) e
def aNil:WA:=λe Q _=>Q [] e
def zae (o:WO) (r:WA):WA:=λe Q X=>o e (λa e1=>r e1 (λas e2=>Q (a::as) e2) X) X
section
variable {y:Y} {e:Expr} {es:List Expr} {w:WE}
theorem zac (h:SE y e w):SO y e (oVal w) where
 run:=zbb h.run λσ H Q ⟨e,P,h0,q⟩=>⟨e,P,h0,h.mono _ _ _ _ _ (λm e' q v H' o=>q v H' ⟨o,trivial⟩) (λ_ _ q=>q) q⟩
 mono:=λe Q Q' X X' hq hx q=>h.mono _ _ _ _ _ (λm e' q=>hq _ _ q) hx q
theorem Ok.freeze {K:PySem.W.Frag} {H:Hp} {σ:L2.St} {e:En} {P:List (V×M)} {v:V} {m:M} (h:Ok K H σ e ((v,m)::P)):Ok K H σ e ((v,.fz m.d)::P) :=
 ⟨h.1,(h.2.perm yad).freeze.perm yad.symm⟩
theorem zah (h:SE y e w):SO y e (oFz w) where
 run:=zbb h.run λσ H Q ⟨e,P,h0,q⟩=>⟨e,P,h0,h.mono _ _ _ _ _ (λm e' q v H' o=>q v H' ⟨o.freeze,trivial⟩) (λ_ _ q=>q) q⟩
 mono:=λe Q Q' X X' hq hx q=>h.mono _ _ _ _ _ (λm e' q=>hq _ _ q) hx q
theorem zad:SA y [] aNil where
 run:=zwZ pa_nil λσ H Q ⟨e,P,h0,q⟩=>q [] H ⟨h0,trivial⟩
 mono:=λe Q Q' X X' hq hx q=>hq _ _ q
theorem zd4 {o:WO} {r:WA} (h:SO y e o) (hr:SA y es r) (hs:starEach (e::es) y.X.env=(false,eval e y.X.env)::starEach es y.X.env):SA y (e::es) (zae o r) where
 run:=zwZ (pa_cons h.run hr.run hs) λσ H Q ⟨e,P,h0,q⟩=>by
  refine ⟨e,P,h0,h.mono _ _ _ _ _ (λa e1 q v H1 o1 => ?_) (λ_ _ q=>q) q⟩
  obtain ⟨o1,p1⟩:=o1
  refine ⟨e1,pend a v++P,o1,hr.mono _ _ _ _ _ (λas e2 q vs H2 o2 => ?_) (λ_ _ q=>zcq q) q⟩
  obtain ⟨o2,p2⟩:=o2
  refine q (v::vs) H2 ⟨?_,p1,p2⟩
  show Ok y.X.K H2 σ e2 ((zc9 as vs++pend a v)++P)
  rw [yae]
  exact o2
 mono:=λe Q Q' X X' hq hx q=>h.mono _ _ _ _ _ (λa e1 q=>hr.mono _ _ _ _ _ (λas e2 q=>hq _ _ q) hx q) hx q
theorem so_pk {i:Nat} {x:Str} {pos:Pos} (hN:y.X.N[i]?=some x) (hv:Vis y.X.env.scope x) (hd:(x==("__debug__" : Str))=false) (hcd:(x==("__classdict__" : Str))=false):SO y (.Name x pos) (oPk i) where
 run:=zbb (pe_var hN hv hd hcd) λσ H Q ⟨e,P,h0,q⟩=>by
  unfold oPk at q
  split at q
  ·rename_i m e1
   obtain ⟨v,e2,_⟩:=h0.peek e1
   exact ⟨v,e2,q v H ⟨h0,e2⟩⟩
  ·exact q.elim
 mono:=λe Q Q' X X' hq hx q=>by
  unfold oPk at *
  split at q
  ·exact hq _ _ q
  ·exact q.elim
theorem se_var {i:Nat} {x:Str} {pos:Pos} (hN:y.X.N[i]?=some x) (hv:Vis y.X.env.scope x) (hd:(x==("__debug__" : Str))=false) (hcd:(x==("__classdict__" : Str))=false):SE y (.Name x pos) (wVar i) where
 run:=zbb (pe_var hN hv hd hcd) λσ H Q ⟨e,P,h0,q⟩=>by
  unfold wVar at q
  split at q
  ·rename_i m e1
   obtain ⟨v,e2,o⟩:=h0.take e1
   refine ⟨v,e2,q v H ?_⟩
   have o:=o.freeze
   have c:Ok y.X.K H σ (e.set i none) ((v,.fz m.d)::(v,.fz m.d)::P):=by
    obtain ⟨G,g⟩:=o.2.opn
    obtain ⟨F,w⟩:=g.own (v,.fz m.d) (yag _ yaa)
    cases w with
    | fz w=>exact ⟨o.1,(g.res _ _ _ (.same w)).perm yad.symm⟩
   have c:=Ok.give (i:=i) c e2
   rw [ybh] at c
   exact c
  ·exact q.elim
 mono:=λe Q Q' X X' hq hx q=>by
  unfold wVar at *
  split at q
  ·exact hq _ _ q
  ·exact q.elim
theorem zhs {v:V} {d:D} (h:PE y.X e (tC v)) (r:∀ G,Rep y.X.K G v d):SE y e (wC d) where
 run:=zbb h λσ H Q ⟨e,P,h0,q⟩=>by
  refine q v H ?_
  obtain ⟨G,g⟩:=h0.2.opn
  exact ⟨h0.1,(g.res _ _ _ (.same (r G))).perm yad.symm⟩
 mono:=λe Q Q' X X' hq hx q=>hq _ _ q
end
section
variable {y:Y} {a b:Expr} {oa ob:WO} {op:OP2} {r:R2} {pos:Pos}
theorem zax {o:Operator} (ho:OpR y.X (binaryOp o) r) (hs:Snd2 y.X.K r op) (ha:SO y a oa) (hb:SO y b ob):SE y (.BinOp a o b pos) (w2 op oa ob) :=
 ⟨zbb (pe_op ho ha.run hb.run) (zvf hs ha.mono hb.mono),zjR hs ha.mono hb.mono⟩
theorem zsf {o:UnaryOp} {r:V->Hp->VK->Prop} {op:OP1} (ho:UnR y.X (unaryOp o) r) (hs:Snd1 y.X.K r op) (ha:SO y a oa):SE y (.UnaryOp o a pos) (w1 op oa) :=
 ⟨zbb (pe_un ho ha.run) (lift1 hs ha.mono),zx0 hs ha.mono⟩
theorem se_cmp {o:CmpOp} (ho:OpR y.X (compareOp o) r) (hs:Snd2 y.X.K r op) (ha:SO y a oa) (hb:SO y b ob) (hm:behindInMarks o b=false):SE y (.Compare a [o] [b] pos) (w2 op oa ob) :=
 ⟨zbb (pe_cmpR ho ha.run hb.run hm) (zvf hs ha.mono hb.mono),zjR hs ha.mono hb.mono⟩
theorem se_ix (ho:IxR y.X r) (hs:Snd2 y.X.K r op) (ha:SO y a oa) (hb:SO y b ob) (hp:PlainIx b):SE y (.Subscript a b pos) (w2 op oa ob) :=
 ⟨zbb (pe_ix ho ha.run hb.run hp) (zvf hs ha.mono hb.mono),zjR hs ha.mono hb.mono⟩
def tVal (w:WE):WT:=λe Q X=>w e (λm e'=>match m with
 | .fz (.bl b)=>Q b e'
 | _=>False) X
theorem zvh {K:PySem.W.Frag} {H:Hp} {σ:L2.St} {e:En} {P:List (V×M)} {v:V} {b:Bool} (h:Ok K H σ e ((v,.fz (.bl b))::P)):v=.bl b:=by
 obtain ⟨G,g⟩:=h.2.opn
 obtain ⟨F,w⟩:=g.own (v,.fz (.bl b)) (yag _ yaa)
 cases w with
 | fz w =>
   cases w
   rfl
theorem znk {w:WE} (h:zcp w):ze6 (tVal w):=λe Q Q' X X' hq hx q=>h _ _ _ _ _ (λm e' q=>by
 split at q
 ·exact hq _ _ q
 ·exact q.elim) hx q
theorem st_cmp {o:CmpOp} (ho:OpR y.X (compareOp o) r) (hs:Snd2 y.X.K r op) (ha:SO y a oa) (hb:SO y b ob) (hm:behindInMarks o b=false):ST y (.Compare a [o] [b] pos) (tVal (w2 op oa ob)) where
 run:=zpV (pt_cmpR ho ha.run hb.run hm) λσ H Q ⟨e,P,h0,q⟩=>by
  refine zvf hs ha.mono hb.mono σ H (λx H'=>∃ k,x=.bl k/\Q k H') ⟨e,P,h0,zjR hs ha.mono hb.mono _ _ _ _ _ (λm e' q v H' o => ?_) (λ_ _ q=>q) q⟩
  dsimp only at q
  split at q
  ·exact ⟨_,zvh o,q H' o.pop⟩
  ·exact q.elim
 mono:=znk (zjR hs ha.mono hb.mono)
def truD:D->Option Bool
 | .non=>some false
 | .bl b=>some b
 | .int i=>some (i != 0)
 | .str s=>if s.length<=sizeLine then some ((s.length:Int) != 0) else none
 | .tup ds=>some !ds.isEmpty
 | .lst ds=>some !ds.isEmpty
 | _=>none
def tTru (o:WO):WT:=λe Q X=>o e (λa e1=>zaS a e1 λm=>match truD m.d with
 | some b=>Q b e1
 | none=>False) X
theorem Reps.isEmpty {K:PySem.W.Frag} {G:Hp} {vs:List V} {ds:List D} (r:Reps K G vs ds):vs.isEmpty=ds.isEmpty:=by
 cases r<;>rfl
theorem zx1 {K:PySem.W.Frag} {G H:Hp} {x:V} {m:M} {F:List Addr} {b:Bool} (ex:Ex G H) (h:Own K G H x m F) (e:truD m.d=some b):TruV K x H b:=by
 cases h with
 | fz h =>
   cases h with
   | non=>cases e; rfl
   | bl _=>cases e; rfl
   | int _=>cases e; rfl
   | str s =>
     simp only [M.d,truD] at e
     split at e
     ·cases e
      exact ⟨by assumption,rfl⟩
     ·cases e
   | ty _=>cases e
   | scr _=>cases e
   | opq _=>cases e
   | att _ _=>cases e
   | adr _=>cases e
   | atx _ _=>cases e
   | tup h r=>cases e; exact .inr (.inl ⟨_,(h.mono ex).sqT,by rw [r.isEmpty]⟩)
   | lst h r=>cases e; exact .inl ⟨_,.of (ex.keep h),by rw [r.isEmpty]⟩
   | dK h r=>cases e
   | dT h r=>cases e
 | lst h r=>cases e; exact .inl ⟨_,.of h,by rw [r.isEmpty]⟩
 | dK h r=>cases e
 | dT h r=>cases e
 | lk h r=>cases e
 | bx _ _ _ _=>cases e
 | dq _=>cases e
 | dA _ _=>cases e
 | ob _ _=>cases e
theorem st_tru (h:SO y a oa) (he:∀ whole,isTrue a y.X.env whole=(do let v ← whole; standAt a.pos; holding [v] (truthy v))):ST y a (tTru oa) where
 run:=zpV (pt_truth h.run he) λσ H Q ⟨e,P,h0,q⟩=>⟨e,P,h0,h.mono _ _ _ _ _ (λa e1 q v H1 o1=>by
  obtain ⟨o1,p1⟩:=o1
  obtain ⟨ma,m1,q⟩:=zb8 o1 p1 q
  obtain ⟨G,g⟩:=o1.2.opn
  obtain ⟨F1,w1⟩:=g.ownX _ m1
  split at q
  ·rename_i e
   exact ⟨_,zx1 g.ex w1 e,q H1 o1.pops⟩
  ·exact q.elim) (λ_ _ q=>q) q⟩
 mono:=λe Q Q' X X' hq hx q=>h.mono _ _ _ _ _ (λa e1 q=>zaF (λm q=>by
  split at q
  ·exact hq _ _ q
  ·exact q.elim) q) hx q
def zk4 (t u:WT):WT:=λe Q X=>t e (λb e1=>if b=true then u e1 Q X else Q false e1) X
def tOrW (t u:WT):WT:=λe Q X=>t e (λb e1=>if b=true then Q true e1 else u e1 Q X) X
def zl5 (t:WT):WT:=λe Q X=>t e (λb e1=>Q (!b) e1) X
def wIf (t:WT) (a b:WE):WE:=λe Q X=>t e (λc e1=>if c=true then a e1 Q X else b e1 Q X) X
variable {t u:WT} {rest:List Expr}
theorem STw.st {e:Expr} (h:STw y e t):ST y e t:=⟨h.run.pt,h.mono⟩
theorem zgu (h:ST y a t):STw y (.BoolOp .And [a] pos) t:=⟨pw_and1 h.run,h.mono⟩
theorem zia (h:ST y a t):STw y (.BoolOp .Or [a] pos) t:=⟨pw_or1 h.run,h.mono⟩
theorem zsg (h:ze6 t) (h':ze6 u):ze6 (zk4 t u):=λe Q Q' X X' hq hx q=>h _ _ _ _ _ (λb e1 q=>by
 cases b with
 | true=>exact iteT (h' _ _ _ _ _ hq hx (by simpa using q))
 | false=>exact iteF (hq _ _ (by simpa using q))) hx q
theorem zvi (h:ze6 t) (h':ze6 u):ze6 (tOrW t u):=λe Q Q' X X' hq hx q=>h _ _ _ _ _ (λb e1 q=>by
 cases b with
 | true=>exact iteT (hq _ _ (by simpa using q))
 | false=>exact iteF (h' _ _ _ _ _ hq hx (by simpa using q))) hx q
theorem zg5 (h:ST y a t) (h':STw y (.BoolOp .And (b::rest) pos) u):STw y (.BoolOp .And (a::b::rest) pos) (zk4 t u) where
 run:=zwY (pw_and h.run h'.run) λσ H Q ⟨e,P,h0,q⟩=>⟨e,P,h0,h.mono _ _ _ _ _ (λb e1 q H1 o=>by
  cases b with
  | true=>exact iteT ⟨e1,P,o,by simpa using q⟩
  | false =>
    rw [yaz yax] at q
    exact iteF (q H1 o)) (λ_ _ q=>q) q⟩
 mono:=zsg h.mono h'.mono
theorem zht (h:ST y a t) (h':STw y (.BoolOp .Or (b::rest) pos) u):STw y (.BoolOp .Or (a::b::rest) pos) (tOrW t u) where
 run:=zwY (pw_or h.run h'.run) λσ H Q ⟨e,P,h0,q⟩=>⟨e,P,h0,h.mono _ _ _ _ _ (λb e1 q H1 o=>by
  cases b with
  | true =>
    rw [yaw rfl] at q
    exact iteT (q H1 o)
  | false=>exact iteF ⟨e1,P,o,by simpa using q⟩) (λ_ _ q=>q) q⟩
 mono:=zvi h.mono h'.mono
theorem zjS (h:ST y a t):ST y (.UnaryOp .Not a pos) (zl5 t) where
 run:=zpV (pt_not h.run) λσ H Q ⟨e,P,h0,q⟩=>⟨e,P,h0,q⟩
 mono:=λe Q Q' X X' hq hx q=>h.mono _ _ _ _ _ (λb e1 q=>hq _ _ q) hx q
theorem zvj {wa wb:WE} (h:ze6 t) (ha:zcp wa) (hb:zcp wb):zcp (wIf t wa wb):=λe Q Q' X X' hq hx q=>h _ _ _ _ _ (λb e1 q=>by
 cases b with
 | true=>exact iteT (ha _ _ _ _ _ hq hx (by simpa using q))
 | false=>exact iteF (hb _ _ _ _ _ hq hx (by simpa using q))) hx q
theorem zx2 {c:Expr} {wa wb:WE} (h:ST y c t) (ha:SE y a wa) (hb:SE y b wb):SE y (.IfExp c a b pos) (wIf t wa wb) where
 run:=zbb (pe_ifExp h.run ha.run hb.run) λσ H Q ⟨e,P,h0,q⟩=>⟨e,P,h0,h.mono _ _ _ _ _ (λb e1 q H1 o=>by
  cases b with
  | true=>exact iteT ⟨e1,P,o,by simpa using q⟩
  | false=>exact iteF ⟨e1,P,o,by simpa using q⟩) (λ_ _ q=>q) q⟩
 mono:=zvj h.mono ha.mono hb.mono
variable {wa wb:WE}
end
end VW
namespace VW
open PySem PySem.Spec PyProof.Rows L2
def fzs:List M->Option (List D)
 | []=>some []
 | .fz d::ms=>(fzs ms).map (d :: ·)
 | _::_=>none
def dsl (es:List D) (k:Prop):Prop:=match Nat.ble es.length 4096 with
 | true=>k
 | false=>False
theorem zw1 {es:List D} {k:Prop} (h:dsl es k):es.length<=sizeLine/\k:=by
 unfold dsl at h
 split at h
 ·rename_i e
  exact ⟨ya7 (yaV e) (by decide),h⟩
 ·exact h.elim
theorem zpW {es:List D} {k k':Prop} (i:k->k') (h:dsl es k):dsl es k':=by
 unfold dsl at *
 split at h
 ·exact i h
 ·exact h.elim
def zbr:OPN:=λms q=>match fzs ms with
 | some ds=>dsl ds (q (.fz (.tup ds)))
 | none=>False
def zbR:OPN:=λms q=>match fzs ms with
 | some ds=>dsl ds (q (.lst ds))
 | none=>False
theorem zl6 {K:PySem.W.Frag} {G H:Hp}:∀ {vs:List V} {ms:List M} {ds:List D},Owns K G H vs ms->fzs ms=some ds->Reps K G vs ds
 | [],[],_,_,e=>by
   cases e
   exact .nil
 | v::vs,.fz d::ms,ds,h,e=>by
   unfold fzs at e
   cases e1:fzs ms with
   | none=>rw [e1] at e; cases e
   | some es =>
     rw [e1] at e
     cases e
     obtain ⟨⟨F,w⟩,h⟩:=h
     cases w with
     | fz w=>exact .cons w (zl6 h e1)
 | _::_,.lst _::_,_,_,e=>by cases e
 | _::_,.dK _::_,_,_,e=>by cases e
 | _::_,.dT _::_,_,_,e=>by cases e
 | _::_,.lk _ _ _ _::_,_,_,e=>by cases e
 | _::_,.dA _ _::_,_,_,e=>by cases e
 | _::_,.ob _ _ _::_,_,_,e=>by cases e
 | _::_,.bx _ _::_,_,_,e=>by cases e
 | [],_::_,_,h,_=>h.elim
 | _::_,[],_,h,_=>h.elim
theorem zsh {K:PySem.W.Frag}:SndN K (λxs H Q=>xs.length<=sizeLine/\∀ p o,H p=none->TupO xs o->Q (.ref p) (upd H p o)) zbr where
 run:=λG H xs ms Q ex ow q=>by
  unfold zbr at q
  split at q
  ·rename_i ds e
   have r:=zl6 ow e
   obtain ⟨h1,q⟩:=zw1 q
   exact ⟨by rw [r.length]; exact h1,λp o n t=>q _ _ (.tup n t r)⟩
  ·exact q.elim
 mono:=λa q q' h k=>by
  unfold zbr at *
  split at k
  ·exact zpW (h _) k
  ·exact k.elim
theorem zsi {K:PySem.W.Frag}:SndN K (λxs H Q=>xs.length<=sizeLine/\∀ p,H p=none->Q (.ref p) (upd H p (.lst xs))) zbR where
 run:=λG H xs ms Q ex ow q=>by
  unfold zbR at q
  split at q
  ·rename_i ds e
   have r:=zl6 ow e
   obtain ⟨h1,q⟩:=zw1 q
   exact ⟨by rw [r.length]; exact h1,λp n=>q _ _ (.lst n r)⟩
  ·exact q.elim
 mono:=λa q q' h k=>by
  unfold zbR at *
  split at k
  ·exact zpW (h _) k
  ·exact k.elim
def tTupF (t:TA):TE:=λσ H Q=>t σ H λxs H1=>xs.length<=sizeLine/\∀ p o,H1 p=none->TupO xs o->Q (.ref p) (upd H1 p o)
theorem zx3 {X:Cx} {es:List Expr} {t:TA} {pos:Pos} {x1} (h:PA X es t):PE X (.Tuple es x1 pos) (tTupF t):=by
 refine ⟨λpins s σ H Q I hq => ?_⟩
 refine wpAny_Tuple_spliced (thn (h.run pos pins s σ H _ I hq) λus s1 ⟨xs,H1,I1,r,z,q⟩=>⟨by rw [← r.length]; exact z,?_⟩)
 obtain ⟨o,t,I'⟩:=zhq I1 z r
 exact ⟨.ref s1.heap.objs.size,_,I',rfl,q _ _ (I1.hok.fresh (yaj _)) t⟩
section
variable {y:Y} {es:List Expr} {wa:WA} {pos:Pos}
theorem zaY {k:Nat} (h:SA y es wa):SE y (.Tuple es k pos) (wN zbr wa) :=
 ⟨zbb (zx3 h.run) (zvg zsh h.mono),zl4 (K:=y.X.K) zsh h.mono⟩
theorem zaW (h:SA y es wa):SE y (.List es pos) (wN zbR wa) :=
 ⟨zbb (pe_lst h.run) (zvg zsi h.mono),zl4 (K:=y.X.K) zsi h.mono⟩
def zx4:WE:=λe Q _=>Q (.dK []) e\/Q (.dT []) e
theorem zx5:SE y (.Dict [] [] pos) zx4 where
 run:=⟨λpins s σ H Q I ⟨e,P,h0,q⟩=>by
  obtain ⟨G,g⟩:=h0.2.opn
  rcases q with q | q
  ·exact (pe_dnewK (X:=y.X)).run pins s σ H Q I λp hp=>q _ _ ⟨h0.1,(g.res _ _ _ (.dK hp .nil)).perm yad.symm⟩
  ·exact (pe_dnewT (X:=y.X)).run pins s σ H Q I λp hp=>q _ _ ⟨h0.1,(g.res _ _ _ (.dT hp .nil)).perm yad.symm⟩⟩
 mono:=λe Q Q' X X' hq hx q=>q.imp (hq _ _) (hq _ _)
end
section
variable {y:Y} {e:Expr} {es:List Expr} {wa:WA} {p pos:Pos} {x:Str} {op:OPN} {r:List V->Hp->VK->Prop}
theorem zvk {id:String} (hc:CallR y.X (.builtin id) r) (hs:SndN y.X.K r op) (hg:Gl y.X x) (hm:y.X.mg x=none) (hv:bootBuiltins x=some (.builtin id)) (ha:SA y (e::es) wa)
 (hn:x ≠ "__name__") (hdb:(x==("__debug__" : Str))=false) (he:starEach (e::es) y.X.env=(false,eval e y.X.env)::starEach es y.X.env) (hpl:(backTo pos (starEach es y.X.env)).any (·.1)=false) :
 SE y (.Call (.Name x p) (e::es) [] pos) (wN op wa) :=
 ⟨zbb (pe_callB hc hg hm hv ha.run hn hdb he hpl) (zvg hs ha.mono),zl4 hs ha.mono⟩
theorem zsj {T:String} (hc:CallR y.X (.type T) r) (hs:SndN y.X.K r op) (hg:Gl y.X x) (hm:y.X.mg x=none) (hv:bootBuiltins x=some (.type T)) (ha:SA y (e::es) wa)
 (hn:x ≠ "__name__") (hdb:(x==("__debug__" : Str))=false) (he:starEach (e::es) y.X.env=(false,eval e y.X.env)::starEach es y.X.env) (hpl:(backTo pos (starEach es y.X.env)).any (·.1)=false) :
 SE y (.Call (.Name x p) (e::es) [] pos) (wN op wa) :=
 ⟨zbb (pe_callTy hc hg hm hv ha.run hn hdb he hpl) (zvg hs ha.mono),zl4 hs ha.mono⟩
end
abbrev WP:=En->(Option Int->En->Prop)->XQ->Prop
def pNo:WP:=λe Q _=>Q none e
def pInt (w:WE):WP:=λe Q X=>w e (λm e'=>match m with
 | .fz (.int i)=>Q (some i) e'
 | _=>False) X
def liftP (y:Y) (w:WP):TO:=λσ H Q=>∃ e P,Ok y.X.K H σ e P/\w e (λo e'=>∀ H',Ok y.X.K H' σ e' P->Q o H') (zni y σ P)
structure SP' (y:Y) (e:Option Expr) (w:WP):Prop where
 run:PO y.X e (liftP y w)
 mono:∀ e Q Q' X X',(∀ m e,Q m e->Q' m e)->(∀ x e,X x e->X' x e)->w e Q X->w e Q' X'
theorem zw2 {X:Cx} {e:Option Expr} {t t':TO} (h:PO X e t) (i:∀ σ H Q,t' σ H Q->t σ H Q):PO X e t':=⟨λpins s σ H Q I q=>h.run pins s σ H Q I (i _ _ _ q)⟩
theorem ok_int {K:PySem.W.Frag} {H:Hp} {σ:L2.St} {e:En} {P:List (V×M)} {v:V} {b:Int} (h:Ok K H σ e ((v,.fz (.int b))::P)):v=.int b:=by
 obtain ⟨G,g⟩:=h.2.opn
 obtain ⟨F,w⟩:=g.own (v,.fz (.int b)) (yag _ yaa)
 cases w with
 | fz w =>
   cases w
   rfl
theorem zl7 {y:Y}:SP' y none pNo:=⟨zw2 po_none λσ H Q ⟨e,P,h0,q⟩=>q H h0,λe Q Q' X X' hq hx q=>hq _ _ q⟩
theorem zhu {y:Y} {e:Expr} {w:WE} (h:SE y e w):SP' y (some e) (pInt w) where
 run:=zw2 (po_some h.run) λσ H Q ⟨e,P,h0,q⟩=>⟨e,P,h0,h.mono _ _ _ _ _ (λm e' q v H' o=>by
  split at q
  ·exact ⟨_,ok_int o,q H' o.pop⟩
  ·exact q.elim) (λ_ _ q=>q) q⟩
 mono:=λe Q Q' X X' hq hx q=>h.mono _ _ _ _ _ (λm e' q=>by
  split at q
  ·exact hq _ _ q
  ·exact q.elim) hx q
abbrev OPS:=M->Option Int->Option Int->(M->Prop)->Prop
structure SndS (K:PySem.W.Frag) (r:V->Option Int->Option Int->Hp->VK->Prop) (op:OPS):Prop where
 run:∀ G H x mx F lo hi (Q:VK),Ex G H->Own K G H x mx F->op mx lo hi (λm=>∀ v H',zh9 K G H m v H'->Q v H')->r x lo hi H Q
 mono:∀ a lo hi (q q':M->Prop),(∀ m,q m->q' m)->op a lo hi q->op a lo hi q'
def wSl (op:OPS) (o:WO) (lo hi:WP):WE:=λe Q X=>o e (λa e1=>lo e1 (λl e2=>hi e2 (λh e3=>zaS a e3 λma=>op ma l h λm=>Q m e3) X) X) X
theorem zvl {y:Y} {e:Expr} {lo hi:Option Expr} {p2 pos:Pos} {o:WO} {wl wh:WP} {op:OPS} {r:V->Option Int->Option Int->Hp->VK->Prop} (hr:SlR y.X r) (hs:SndS y.X.K r op) (he:SO y e o) (hl:SP' y lo wl) (hh:SP' y hi wh) :
 SE y (.Subscript e (.Slice lo hi none p2) pos) (wSl op o wl wh) where
 run:=zbb (pe_slice hr he.run hl.run hh.run) λσ H Q ⟨e,P,h0,q⟩=>⟨e,P,h0,he.mono _ _ _ _ _ (λa e1 q v H1 o1=>by
  obtain ⟨o1,p1⟩:=o1
  refine ⟨e1,pend a v++P,o1,hl.mono _ _ _ _ _ (λl e2 q H2 o2 => ?_) (λ_ _ q=>zcq q) q⟩
  refine ⟨e2,pend a v++P,o2,hh.mono _ _ _ _ _ (λh e3 q H3 o3 => ?_) (λ_ _ q=>zcq q) q⟩
  obtain ⟨ma,m1,q⟩:=zb8 o3 p1 q
  obtain ⟨G,g⟩:=o3.2.opn
  obtain ⟨F1,w1⟩:=g.ownX _ m1
  exact hs.run G H3 v ma F1 l h Q g.ex w1 (hs.mono _ _ _ _ _ (λm q v' H' r'=>q v' H' (g.fin o3.1 r')) q)) (λ_ _ q=>q) q⟩
 mono:=λe Q Q' X X' hq hx q=>he.mono _ _ _ _ _ (λa e1 q=>hl.mono _ _ _ _ _ (λl e2 q=>hh.mono _ _ _ _ _ (λh e3 q=>zaF (λma q=>hs.mono _ _ _ _ _ (λm q=>hq _ _ q) q) q) hx q) hx q) hx q
def isTp:Expr->Bool
 | .Tuple _ _ _=>true
 | _=>false
def Gvn (K:PySem.W.Frag) (tp:Bool) (H':Hp) (x:V) (d:D) (L:List (V×M)):Prop :=
 Sep K H' ((x,.fz d)::L)\/(tp=true/\∃ p vs es,x=.ref p/\d=.tup es/\SqT K H' p vs/\vs.length=es.length/\Sep K H' (vs.zip (es.map M.fz)++L))
structure Walks (K:PySem.W.Frag) (tp:Bool) (J:It) (ds:List D) (R:List (V×M)):Prop where
 go:∀ i H L d,Sep K H (R++L)->ds[i]?=some d->J.go i H/\∀ x H',J.yld i H x H'->Gvn K tp H' x d (R++L)
 stop:∀ i H L,Sep K H (R++L)->ds.length<=i->J.stop i H
def liftI (y:Y) (tg:Expr) (w:WI):TI:=λσ H R'=>∃ e P,Ok y.X.K H σ e P/\w e (λds e'=>∀ J H1 R,Walks y.X.K (isTp tg) J ds R->Ok y.X.K H1 σ e' (R++P)->R' J H1) (zni y σ P)
structure SI (y:Y) (tg iter:Expr) (w:WI):Prop where
 run:PI y.X tg iter (liftI y tg w)
 mono:zsd w
inductive Tg where
 | nm (i:Nat) | tp (ts:List Tg)
mutual
def Tg.asg:Tg->M->En->Option En
 | .nm i,m,e=>some (e.set i (some m))
 | .tp ts,m,e=>match m.d with
   | .tup ds=>Tg.asgs ts ds e
   | _=>none
def Tg.asgs:List Tg->List D->En->Option En
 | [],[],e=>some e
 | t::ts,d::ds,e=>(t.asg (.fz d) e).bind λe'=>Tg.asgs ts ds e'
 | _,_,_=>none
end
mutual
def Tg.slots:Tg->List Nat
 | .nm i=>[i]
 | .tp ts=>Tg.slotss ts
def Tg.slotss:List Tg->List Nat
 | []=>[]
 | t::ts=>t.slots++Tg.slotss ts
end
mutual
def Tg.tg (K:PySem.W.Frag):Tg->TG
 | .nm i=>gName i
 | .tp ts=>gTup K ts.length (Tg.tgs K ts)
def Tg.tgs (K:PySem.W.Frag):List Tg->TGs
 | []=>gNil
 | t::ts=>gCons (t.tg K) (Tg.tgs K ts)
end
theorem ok_tup {K:PySem.W.Frag} {H:Hp} {σ:L2.St} {e:En} {P:List (V×M)} {v:V} {m:M} {ds:List D} (h:Ok K H σ e ((v,m)::P)) (em:m.d=.tup ds):∃ a vs,v=.ref a/\SqT K H a vs/\vs.length=ds.length/\Ok K H σ e (vs.zip (ds.map M.fz)++P):=by
 obtain ⟨F,nd,q⟩:=h.2
 obtain ⟨F',pm,q'⟩:=q.perm yad
 have nd':=pm.nodup nd
 cases q' with
 | cons w r =>
   rename_i F1 F2
   cases w with
   | fz w =>
     have em:_=D.tup ds:=em
     subst em
     cases w with
     | tup hs rs =>
       rename_i a vs
       refine ⟨a,vs,rfl,(hs.mono zpU).sqT,rs.length,h.1,?_⟩
       have build:∀ {vs:List V} {ds:List D},Reps K (hid H F) vs ds->Helds K (hid H F) H (vs.zip (ds.map M.fz)) []:=by
        intro vs ds rs
        induction vs generalizing ds with
        | nil =>
          cases rs
          exact .nil
        | cons v vs ih =>
          cases rs with
          | cons r rs=>exact .cons (F1:=[]) (F2:=[]) (.fz r) (ih rs)
       have hF:hid H F=hid H F2:=zjQ λa=>pm.mem_iff
       have b:=build rs
       have t:Helds K (hid H F2) H (vs.zip (ds.map M.fz)++(prs σ e++P)) F2:=by
        rw [← hF]
        exact b.append r
       have t:Sep K H (vs.zip (ds.map M.fz)++(prs σ e++P)):=⟨F2,nd',t⟩
       refine t.perm ?_
       rw [← yae,← yae]
       exact yaC.append_right _
   | lst _ _=>cases em
   | dK _ _=>cases em
   | dT _ _=>cases em
   | lk _ _=>cases em
   | bx _ _ _ _=>cases em
   | dq _=>cases em
   | dA _ _=>cases em
   | ob _ _=>cases em
def But (ss:List Nat) (σ σ':L2.St):Prop:=σ'.length=σ.length/\∀ i,i∉ss->σ'[i]?=σ[i]?
theorem But.refl (ss:List Nat) (σ:L2.St):But ss σ σ:=⟨rfl,λ_ _=>rfl⟩
theorem But.trans {a b:List Nat} {σ σ1 σ2:L2.St} (h:But a σ σ1) (h':But b σ1 σ2):But (a++b) σ σ2:=⟨h'.1.trans h.1,λi z=>(h'.2 i λw=>z (yag _ w)).trans (h.2 i λw=>z (yai _ w))⟩
theorem zfg {K:PySem.W.Frag} {H:Hp} {σ:L2.St} {e:En} {P:List (V×M)} {v:V} {m:M} (i:Nat) (h:Ok K H σ e ((v,m)::P)):Ok K H (σ.set i (some v)) (e.set i (some m)) P:=by
 by_cases z:i<e.length
 ·exact h.store z
 ·have z':e.length<=i:=by omega
  rw [ybK z',ybK (by rw [← h.1.length]; exact z')]
  exact h.pop
mutual
theorem Tg.ok {K:PySem.W.Frag}:∀ (t:Tg) {H:Hp} {σ:L2.St} {e e':En} {P:List (V×M)} {v:V} {m:M} {Q:L2.St->Hp->Prop},Ok K H σ e ((v,m)::P)->t.asg m e=some e'->(∀ σ',Ok K H σ' e' P->But t.slots σ σ'->Q σ' H)->t.tg K v σ H Q
 | .nm i,H,σ,e,e',P,v,m,Q,h,a,q=>by
   unfold Tg.asg at a
   cases a
   unfold Tg.tg
   refine q _ (zfg i h) ⟨by rw [ybr],λj z => ?_⟩
   unfold Tg.slots at z
   rw [yaK λw=>z (by simp [w])]
 | .tp ts,H,σ,e,e',P,v,m,Q,h,a,q=>by
   unfold Tg.asg at a
   split at a
   ·rename_i ds em
    obtain ⟨p,vs,rfl,hs,hl,o⟩:=ok_tup h em
    unfold Tg.tg
    have hn:ts.length=ds.length:=Tg.asgs_len ts a
    exact ⟨p,vs,rfl,hs,by rw [hl,hn],Tg.oks ts hl o a q⟩
   ·cases a
theorem Tg.oks {K:PySem.W.Frag}:∀ (ts:List Tg) {H:Hp} {σ:L2.St} {e e':En} {P:List (V×M)} {vs:List V} {ds:List D} {Q:L2.St->Hp->Prop},vs.length=ds.length->Ok K H σ e (vs.zip (ds.map M.fz)++P)->Tg.asgs ts ds e=some e'->(∀ σ',Ok K H σ' e' P->But (Tg.slotss ts) σ σ'->Q σ' H)->Tg.tgs K ts vs σ H Q
 | [],H,σ,e,e',P,vs,ds,Q,hl,h,a,q=>by
   cases ds with
   | nil =>
     cases vs with
     | nil =>
       unfold Tg.asgs at a
       cases a
       unfold Tg.tgs
       exact ⟨rfl,q _ h (But.refl _ _)⟩
     | cons v vs=>cases hl
   | cons d ds=>unfold Tg.asgs at a; cases a
 | t::ts,H,σ,e,e',P,vs,ds,Q,hl,h,a,q=>by
   cases ds with
   | nil=>unfold Tg.asgs at a; cases a
   | cons d ds =>
     cases vs with
     | nil=>cases hl
     | cons v vs =>
       unfold Tg.asgs at a
       obtain ⟨e1,a1,a2⟩:=ycz.mp a
       unfold Tg.tgs
       refine ⟨v,vs,rfl,Tg.ok t (P:=vs.zip (ds.map M.fz)++P) h a1 λσ1 o1 b1 => ?_⟩
       refine Tg.oks ts (Nat.succ.inj hl) o1 a2 λσ2 o2 b2=>q σ2 o2 ?_
       unfold Tg.slotss
       exact b1.trans b2
theorem Tg.asgs_len:∀ (ts:List Tg) {ds:List D} {e e':En},Tg.asgs ts ds e=some e'->ts.length=ds.length
 | [],[],_,_,_=>rfl
 | [],_::_,_,_,h=>by unfold Tg.asgs at h; cases h
 | _::_,[],_,_,h=>by unfold Tg.asgs at h; cases h
 | t::ts,d::ds,e,e',h=>by
   unfold Tg.asgs at h
   obtain ⟨e1,_,h2⟩:=ycz.mp h
   exact ya8 (· + 1) (Tg.asgs_len ts h2)
end
def Tg.isTp:Tg->Bool
 | .tp _=>true
 | _=>false
theorem Tg.okG {K:PySem.W.Frag} (t:Tg) {tp:Bool} {H:Hp} {x:V} {d:D} {L:List (V×M)} {σ:L2.St} {e e':En} {P:List (V×M)} {Q:L2.St->Hp->Prop} (g:Gvn K tp H x d L) (al:Al σ e) (pm:L.Perm (prs σ e++P)) (htp:(tp && !t.isTp)=false)
 (a:t.asg (.fz d) e=some e') (q:∀ σ',Ok K H σ' e' P->But t.slots σ σ'->Q σ' H):t.tg K x σ H Q:=by
 rcases g with s | ⟨ht,p,vs,es,rfl,rfl,hs,hl,s⟩
 ·exact t.ok (P:=P) ⟨al,s.perm ((pm.cons _).trans yad.symm)⟩ a q
 ·cases t with
  | nm i =>
    rw [ht] at htp
    cases htp
  | tp ts =>
    unfold Tg.asg at a
    have a:Tg.asgs ts es e=some e':=a
    unfold Tg.tg
    refine ⟨p,vs,rfl,hs,by rw [hl,Tg.asgs_len ts a],Tg.oks ts (P:=P) hl ⟨al,s.perm ?_⟩ a q⟩
    refine (pm.append_left _).trans ?_
    rw [← yae,← yae]
    exact yaC.append_right _
def Kept (κ:List (Nat×V)) (σ:L2.St):Prop:=∀ p∈κ,σ[p.1]?=some (some p.2)
def lend (y:Y) (κ:List (Nat×V)) (P:List (V×M)) (D:Ends):zd3 where
 nx:=λe'=>∀ σ' H',Kept κ σ'->Ok y.X.K H' σ' e' P->D.nx σ' H'
 rt:=λm e'=>∀ σ' v H',Kept κ σ'->Ok y.X.K H' σ' e' ((v,m)::P)->D.rt v H'
 bk:=λe'=>∀ σ' H',Kept κ σ'->Ok y.X.K H' σ' e' P->D.bk σ' H'
 ct:=λe'=>∀ σ' H',Kept κ σ'->Ok y.X.K H' σ' e' P->D.ct σ' H'
 ex:=λx e'=>∀ σ' c d H',Kept κ σ'->y.xr x c d H'->Ok y.X.K H' σ' e' P->y.W c d σ' H'
def zx6 (y:Y) (κ:List (Nat×V)) (w:WS):TS:=λD σ H=>∃ e P,Kept κ σ/\Ok y.X.K H σ e P/\w (lend y κ P D) e
structure SS (y:Y) (κ:List (Nat×V)) (st:Stmt) (w:WS):Prop where
 run:PS y.X st (zx6 y κ w)
 mono:zhr w
structure SSs (y:Y) (κ:List (Nat×V)) (st:List Stmt) (w:WS):Prop where
 run:PSs y.X st (zx6 y κ w)
 mono:zhr w
def sNx:WS:=λE e=>E.nx e
def sSeq (a b:WS):WS:=λE e=>a { E with nx:=λe'=>b E e' } e
def zee (w:WE):WS:=λE e=>w e (λ_ e1=>E.nx e1) E.ex
def sRet (o:WO):WS:=λE e=>o e (λa e1=>match a with
 | .vl m=>E.rt m e1
 | .pk i=>match e1[i]? with
   | some (some m)=>E.rt m (e1.set i none)
   | _=>False
 | .fd _ _ _=>False) E.ex
def sIf (t:WT) (a b:WS):WS:=λE e=>t e (λc e1=>if c=true then a E e1 else b E e1) E.ex
def sSet (i:Nat) (w:WE):WS:=λE e=>w e (λm e1=>E.nx (e1.set i (some m))) E.ex
def sAsg (t:Tg) (w:WE):WS:=λE e=>w e (λm e1=>match t.asg m e1 with
 | some e2=>E.nx e2
 | none=>False) E.ex
def zda (t:Tg) (b:WS) (E:zd3):List D->En->Prop
 | [],e=>E.nx e
 | d::ds,e=>match t.asg (.fz d) e with
   | some e1=>b { nx:=zda t b E ds,rt:=E.rt,bk:=E.nx,ct:=zda t b E ds,ex:=E.ex } e1
   | none=>False
def sFor (wi:WI) (t:Tg) (b:WS):WS:=λE e=>wi e (λds e1=>zda t b E ds e1) E.ex
def zhv (t:WT) (b:WS):WS:=λE e=>∃ I:Nat->En->Prop,(∃ m,I m e)/\∀ m e,I m e ->
 t e (λc e1=>if c=true then b { nx:=λe'=>∃ m',m'<m/\I m' e',rt:=E.rt,bk:=E.nx,ct:=λe'=>∃ m',m'<m/\I m' e',ex:=E.ex } e1 else E.nx e1) E.ex
section
variable {y:Y} {κ:List (Nat×V)} {st:Stmt} {rest:List Stmt} {e:Expr} {w:WE} {a b:WS} {t:WT} {pos:Pos}
theorem zby:SSs y κ [] sNx:=⟨zoY pss_nil λD σ H ⟨e,P,hk,h0,q⟩=>q σ H hk h0,λE E' e l q=>l.nx _ q⟩
theorem zpX (ha:zhr a) (hb:zhr b):zhr (sSeq a b):=λE E' e l q=>ha { E with nx:=λe'=>b E e' } { E' with nx:=λe'=>b E' e' } e ⟨λe q=>hb E E' e l q,l.rt,l.bk,l.ct,l.ex⟩ q
theorem zvm (h1:SS y κ st a) (h2:SSs y κ rest b):SSs y κ (st::rest) (sSeq a b) where
 run:=zoY (pss_cons h1.run h2.run) λD σ H ⟨e,P,hk,h0,q⟩=>⟨e,P,hk,h0,h1.mono { lend y κ P D with nx:=λe'=>b (lend y κ P D) e' } (lend y κ P { D with nx:=zx6 y κ b D }) _ ⟨λe' q σ' H' hk' o=>⟨e',P,hk',o,q⟩,λ_ _ q=>q,λ_ q=>q,λ_ q=>q,λ_ _ q=>q⟩ q⟩
 mono:=zpX h1.mono h2.mono
theorem zaj (h1:SS y κ st a):SSs y κ [st] a:=⟨zoY (pss_one h1.run) λD σ H q=>q,h1.mono⟩
theorem zx7 (h:SE y e w) (hs:swapsWith e none pos.line y.X.env=pure false):SS y κ (.Expr e pos) (zee w) where
 run:=zeB (ps_expr h.run hs) λD σ H ⟨e,P,hk,h0,q⟩=>⟨e,P,h0,h.mono _ _ _ _ _ (λm e1 q v H1 o=>q σ H1 hk o.pop) (λ_ _ q c d H' r o=>q σ c d H' hk r o) q⟩
 mono:=λE E' e l q=>h.mono _ _ _ _ _ (λ_ _ q=>l.nx _ q) l.ex q
theorem ss_ret {o:WO} (h:SO y e o):SS y κ (.Return (some e) pos) (sRet o) where
 run:=zeB (ps_ret h.run) λD σ H ⟨e,P,hk,h0,q⟩=>⟨e,P,h0,h.mono _ _ _ _ _ (λa e1 q v H1 o=>by
  obtain ⟨o,p⟩:=o
  cases a with
  | fd _ _ _=>exact q.elim
  | vl m=>exact q σ v H1 hk o
  | pk i =>
    dsimp only at q
    split at q
    ·rename_i m e1
     obtain ⟨v',e2,o'⟩:=Ok.take (P:=P) o e1
     have e3:some (some v)=some (some v'):=p.symm.trans e2
     cases e3
     exact q σ v H1 hk o'
    ·exact q.elim) (λ_ _ q c d H' r o=>q σ c d H' hk r o) q⟩
 mono:=λE E' e l q=>h.mono _ _ _ _ _ (λa e1 q=>by
  cases a with
  | fd _ _ _=>exact q.elim
  | vl m=>exact l.rt _ _ q
  | pk i =>
    dsimp only at q ⊢
    split at q
    ·exact l.rt _ _ q
    ·exact q.elim) l.ex q
theorem zvn (h:ze6 t) (ha:zhr a) (hb:zhr b):zhr (sIf t a b):=λE E' e l q=>h _ _ _ _ _ (λc e1 q=>by
 cases c with
 | true=>exact iteT (ha _ _ _ l (by simpa using q))
 | false=>exact iteF (hb _ _ _ l (by simpa using q))) l.ex q
theorem ss_if {c:Expr} {xs ys:List Stmt} (h:ST y c t) (ha:SSs y κ xs a) (hb:SSs y κ ys b):SS y κ (.If c xs ys pos) (sIf t a b) where
 run:=zeB (ps_if h.run ha.run hb.run) λD σ H ⟨e,P,hk,h0,q⟩=>⟨e,P,h0,h.mono _ _ _ _ _ (λc e1 q H1 o=>by
  cases c with
  | true=>exact iteT ⟨e1,P,hk,o,by simpa using q⟩
  | false=>exact iteF ⟨e1,P,hk,o,by simpa using q⟩) (λ_ _ q c d H' r o=>q σ c d H' hk r o) q⟩
 mono:=zvn h.mono ha.mono hb.mono
theorem Kept.but {ss:List Nat} {σ σ':L2.St} (h:Kept κ σ) (b:But ss σ σ') (hs:∀ p∈κ,p.1∉ss):Kept κ σ':=λp z=>(b.2 p.1 (hs p z)).trans (h p z)
theorem Kept.set {σ:L2.St} {i:Nat} {x:Option V} (h:Kept κ σ) (hi:∀ p∈κ,p.1≠i):Kept κ (σ.set i x):=λp z=>by
 rw [yaK (ybR (hi p z))]
 exact h p z
theorem ss_set {i:Nat} {x:Str} {pos':Pos} (hN:y.X.N.Nodup) (hi:y.X.N[i]?=some x) (hx:Loc y.X.env.scope x) (h:SE y e w) (hs:swapsWith e (some (.Name x pos')) pos.line y.X.env=pure false) (hf:y.X.fn x=true\/y.X.env.scope.names.lookup x=some .local)
 (hκ:∀ p∈κ,p.1≠i):SS y κ (.Assign [.Name x pos'] e pos) (sSet i w) where
 run:=zeB (ps_set hN hi hx h.run hs hf) λD σ H ⟨e,P,hk,h0,q⟩=>⟨e,P,h0,h.mono _ _ _ _ _ (λm e1 q v H1 o=>q _ H1 (hk.set hκ) (zfg i o)) (λ_ _ q c d H' r o=>q σ c d H' hk r o) q⟩
 mono:=λE E' e l q=>h.mono _ _ _ _ _ (λ_ _ q=>l.nx _ q) l.ex q
theorem znl {tg:Tg} (h:zcp w):zhr (sAsg tg w):=λE E' e l q=>h _ _ _ _ _ (λ_ _ q=>by
 split at q
 ·exact l.nx _ q
 ·exact q.elim) l.ex q
theorem ss_asg {tg:Tg} {target:Expr} (hg:PG y.X target (tg.tg y.X.K)) (h:SE y e w) (hs:swapsWithSole [target] e pos.line y.X.env=pure false) (hw:swappedStores [target] e y.X.env=pure none)
 (h1:(assignEach [target] y.X.env).map (·.2)=[assign target y.X.env]) (hκ:∀ p∈κ,p.1∉tg.slots):SS y κ (.Assign [target] e pos) (sAsg tg w) where
 run:=zeB (ps_asg h.run hg hs hw h1) λD σ H ⟨e,P,hk,h0,q⟩=>⟨e,P,h0,h.mono _ _ _ _ _ (λm e1 q v H1 o=>by
  split at q
  ·rename_i e2 a
   exact tg.ok o a λσ' o' bt=>q σ' H1 (hk.but bt hκ) o'
  ·exact q.elim) (λ_ _ q c d H' r o=>q σ c d H' hk r o) q⟩
 mono:=znl h.mono
theorem zgv {tg:Tg} (hb:zhr b) {E E':zd3} (l:E.Le E'):∀ (ds:List D) (e:En),zda tg b E ds e->zda tg b E' ds e
 | [],e,q=>l.nx _ q
 | d::ds,e,q=>by
   unfold zda at *
   split at q
   ·rename_i e1 a
    exact hb { nx:=zda tg b E ds,rt:=E.rt,bk:=E.nx,ct:=zda tg b E ds,ex:=E.ex } { nx:=zda tg b E' ds,rt:=E'.rt,bk:=E'.nx,ct:=zda tg b E' ds,ex:=E'.ex } _
     ⟨λe q=>zgv hb l ds e q,l.rt,l.nx,λe q=>zgv hb l ds e q,l.ex⟩ q
   ·exact q.elim
theorem ss_for {tg:Tg} {target iter:Expr} {body:List Stmt} {wi:WI} (hp:PassesOwn (model y.X.prog y.X.w) y.X.A y.X.env y.X.xe) (hc:y.X.calm=true) (hi:SI y target iter wi) (hg:PG y.X target (tg.tg y.X.K)) (hb:SSs y κ body b)
 (hs:∀ x,foldedSetIterable iter y.X.env x=pure x) (hκ:∀ p∈κ,p.1∉tg.slots) (htp:(isTp target && !tg.isTp)=false):SS y κ (.For target iter body [] pos) (sFor wi tg b) where
 run:=zeB (ps_for hp hc hi.run hg hb.run hs) λD σ H ⟨e,P,hk,h0,q⟩=>⟨e,P,h0,hi.mono _ _ _ _ _ (λds e1 q J H1 R wk o=>by
  refine ⟨λi m σ' H'=>m=ds.length-i/\i<=ds.length/\∃ e',Kept κ σ'/\Ok y.X.K H' σ' e' (R++P)/\zda tg b (lend y κ P D) (ds.drop i) e',⟨ds.length,by simp,ybd _,e1,hk,o,q⟩,?_⟩
  rintro i m σ' H' ⟨rfl,hi,e',hk',o',q'⟩
  have hsep:Sep y.X.K H' (R++(prs σ' e'++P)):=o'.2.perm (by
   rw [← yae,← yae]
   exact yaC.append_right _)
  by_cases hlt:i<ds.length
  ·rw [ybj hlt] at q'
   obtain ⟨g1,g2⟩:=wk.go i H' _ ds[i] hsep (yak hlt)
   unfold zda at q'
   split at q'
   ·rename_i e2 ea
    refine .inr ⟨g1,λσ2 H2=>∃ e3,Kept κ σ2/\Ok y.X.K H2 σ2 e3 (R++P)/\zda tg b (lend y κ P D) (ds.drop (i+1)) e3,λσ2 H2 n => ?_,λx H2 yl => ?_⟩
    ·exact ⟨ds.length-(i+1),by omega,rfl,hlt,n⟩
    ·have sx:=g2 x H2 yl
     refine tg.okG (P:=R++P) sx o'.1 (by
      rw [← yae,← yae]
      exact yaC.append_right _) htp ea λσ3 o3 bt => ?_
     refine ⟨e2,R++P,hk'.but bt hκ,o3,hb.mono { nx:=zda tg b (lend y κ P D) (ds.drop (i+1)),rt:=(lend y κ P D).rt,bk:=(lend y κ P D).nx,ct:=zda tg b (lend y κ P D) (ds.drop (i+1)),ex:=(lend y κ P D).ex } _ _ ⟨λe4 q σ4 H4 k4 o4=>⟨e4,k4,o4,q⟩,λm e4 q σ4 v H4 k4 o4=>q σ4 v H4 k4 (Ok.pops (P:=R) (o4.perm yad.symm)),λe4 q σ4 H4 k4 o4=>q σ4 H4 k4 o4.pops,λe4 q σ4 H4 k4 o4=>⟨e4,k4,o4,q⟩,λx e4 q σ4 c d H4 k4 r o4=>q σ4 c d H4 k4 r o4.pops⟩ q'⟩
   ·exact q'.elim
  ·have e0:i=ds.length:=by omega
   subst e0
   rw [ybX] at q'
   exact .inl ⟨wk.stop _ H' _ hsep (yaj _),q' σ' H' hk' o'.pops⟩) (λ_ _ q c d H' r o=>q σ c d H' hk r o) q⟩
 mono:=λE E' e l q=>hi.mono _ _ _ _ _ (λds e1 q=>zgv hb.mono l ds e1 q) l.ex q
theorem zvo {c:Expr} {body:List Stmt} (hp:PassesOwn (model y.X.prog y.X.w) y.X.A y.X.env y.X.xe) (h:ST y c t) (hb:SSs y κ body b):SS y κ (.While c body [] pos) (zhv t b) where
 run:=zeB (ps_while hp h.run hb.run) λD σ H ⟨e,P,hk,h0,q⟩=>by
  obtain ⟨I,⟨m0,i0⟩,turn⟩:=q
  refine ⟨λm σ' H'=>∃ e',Kept κ σ'/\Ok y.X.K H' σ' e' P/\I m e',⟨m0,e,hk,h0,i0⟩,?_⟩
  rintro m σ' H' ⟨e',hk',o',i'⟩
  refine ⟨e',P,o',h.mono _ _ _ _ _ (λc e1 q H1 o1 => ?_) (λ_ _ q c d H' r o=>q σ' c d H' hk' r o) (turn m e' i')⟩
  cases c with
  | true =>
    rw [yaw rfl] at q
    refine iteT ⟨λσ2 H2=>∃ m',m'<m/\∃ e2,Kept κ σ2/\Ok y.X.K H2 σ2 e2 P/\I m' e2,λσ2 H2 ⟨m',hm,n⟩=>⟨m',hm,n⟩,?_⟩
    exact ⟨e1,P,hk',o1,hb.mono { nx:=λe'=>∃ m',m'<m/\I m' e',rt:=(lend y κ P D).rt,bk:=(lend y κ P D).nx,ct:=λe'=>∃ m',m'<m/\I m' e',ex:=(lend y κ P D).ex } _ _ ⟨λe2 ⟨m',hm,i2⟩ σ2 H2 k2 o2=>⟨m',hm,e2,k2,o2,i2⟩,λ_ _ q=>q,λ_ q=>q,λe2 ⟨m',hm,i2⟩ σ2 H2 k2 o2=>⟨m',hm,e2,k2,o2,i2⟩,λ_ _ q=>q⟩ q⟩
  | false =>
    rw [yaz yax] at q
    exact iteF (q σ' H1 hk' o1)
 mono:=λE E' e l ⟨I,i0,turn⟩=>⟨I,i0,λm e im=>h.mono _ _ _ _ _ (λc e1 q=>by
  cases c with
  | true =>
    rw [yaw rfl] at q
    exact iteT (hb.mono { nx:=λe'=>∃ m',m'<m/\I m' e',rt:=E.rt,bk:=E.nx,ct:=λe'=>∃ m',m'<m/\I m' e',ex:=E.ex } { nx:=λe'=>∃ m',m'<m/\I m' e',rt:=E'.rt,bk:=E'.nx,ct:=λe'=>∃ m',m'<m/\I m' e',ex:=E'.ex } _ ⟨λ_ q=>q,l.rt,l.nx,λ_ q=>q,l.ex⟩ q)
  | false=>exact iteF (l.nx _ (by simpa using q))) l.ex (turn m e im)⟩
end
def zbc (e:En):List Nat->En
 | []=>e
 | i::is=>(zbc e is).set i none
def zbd (e0:En):List Nat->En->En
 | [],e=>e
 | i::is,e=>(zbd e0 is e).set i (e0.getD i none)
def noX:XQ:=λ_ _=>False
def lcGo (t:Tg) (tt:WT) (te:WE) (own:List Nat):List D->List D->En->(List D->En->Prop)->Prop
 | [],acc,e,k=>k acc e
 | d::ds,acc,e,k=>match t.asg (.fz d) e with
   | some e1=>tt e1 (λb e2=>if b=true then te e2 (λm e3=>lcGo t tt te own ds (acc++[m.d]) (zbc e3 own) k) noX else lcGo t tt te own ds acc (zbc e2 own) k) noX
   | none=>False
def wLc (wi:WI) (t:Tg) (tt:WT) (te:WE) (own:List Nat):WE:=λe Q X=>wi e (λds e1=>ds.length<=sizeLine/\lcGo t tt te own ds [] (zbc e1 own) λacc e2=>Q (.lst acc) (zbd e1 own e2)) X
def zd5:WT:=λe Q _=>Q true e
theorem zhw {t:Tg} {tt:WT} {te:WE} {own:List Nat} (ht:ze6 tt) (he:zcp te):∀ (ds acc:List D) (e:En) (k k':List D->En->Prop),(∀ a e,k a e->k' a e)->lcGo t tt te own ds acc e k->lcGo t tt te own ds acc e k'
 | [],acc,e,k,k',h,q=>h _ _ q
 | d::ds,acc,e,k,k',h,q=>by
   unfold lcGo at *
   split at q
   ·refine ht _ _ _ _ _ (λb e2 q => ?_) (λ_ _ q=>q) q
    cases b with
    | true =>
      rw [yaw rfl] at q ⊢
      exact he _ _ _ _ _ (λm e3 q=>zhw ht he _ _ _ _ _ h q) (λ_ _ q=>q) q
    | false =>
      rw [yaz yax] at q ⊢
      exact zhw ht he _ _ _ _ _ h q
   ·exact q.elim
theorem zl8 {wi:WI} {t:Tg} {tt:WT} {te:WE} {own:List Nat} (hi:zsd wi) (ht:ze6 tt) (he:zcp te):zcp (wLc wi t tt te own):=λe Q Q' X X' hq hx q =>
 hi _ _ _ _ _ (λds e1 q=>⟨q.1,zhw ht he _ _ _ _ _ (λ_ _ q=>hq _ _ q) q.2⟩) hx q
structure STs (y:Y) (ifs:List Expr) (w:WT):Prop where
 run:PTs y.X ifs (zrd y w)
 mono:ze6 w
theorem zsk {X:Cx} {e:List Expr} {t t':TT} (h:PTs X e t) (i:∀ σ H Q,t' σ H Q->t σ H Q):PTs X e t':=⟨λpins s σ H Q I q=>h.run pins s σ H Q I (i _ _ _ q)⟩
theorem zb9 {y:Y}:STs y [] zd5:=⟨zsk pts_nil λσ H Q ⟨e,P,h0,q⟩=>q H h0,λ_ _ _ _ _ hq _ q=>hq _ _ q⟩
theorem zg6 {y:Y} {c:Expr} {w:WT} (h:ST y c w):STs y [c] w:=⟨zsk (pts_one h.run) λσ H Q q=>q,h.mono⟩
abbrev Y.blk (y:Y) (s:Shared) (H:Hp) (scope:Scope) (C:Addr) (cl:List (Str×Addr)) (fp:List Addr):Y:=⟨y.X.blk s H scope (compEnvC scope cl C y.X.env) fp,y.xr,λ_ _ _ _=>False⟩
theorem zjq {own:List Nat} {σ σ':L2.St}:∀ {vs:List Nat},But own σ σ'->(∀ i∈own,i∈vs)->wipe σ' vs=wipe σ vs:=λ{vs} b hs=>by
 have key:∀ (vs:List Nat) (τ:L2.St) (j:Nat),(wipe τ vs)[j]?=if j∈vs/\j<τ.length then some none else τ[j]?:=by
  intro vs τ j
  induction vs with
  | nil=>simp [wipe]
  | cons v vs ih =>
    unfold wipe
    by_cases e:v=j
    ·subst e
     by_cases l:v<τ.length
     ·rw [yaM (by rw [wipe_length]; exact l),yaw ⟨by simp,l⟩]
     ·rw [yar (by rw [ybr,wipe_length]; omega),yaz λz=>l z.2,yar (by omega)]
    ·rw [yaK e,ih]
     have:(j∈v::vs)↔j∈vs:=by simp [ybR e]
     simp only [this]
 apply yaS
 intro j
 rw [key,key,b.1]
 by_cases z:j∈vs
 ·by_cases l:j<σ.length
  ·rw [yaw ⟨z,l⟩,yaw ⟨z,l⟩]
  ·rw [yaz λw=>l w.2,yaz λw=>l w.2,yar (by rw [b.1]; omega),yar (by omega)]
 ·rw [yaz λw=>z w.1,yaz λw=>z w.1,b.2 j λw=>z (hs j w)]
section
variable {K:PySem.W.Frag} {H:Hp} {σ:L2.St} {e:En} {P:List (V×M)}
theorem Ok.wiped (h:Ok K H σ e P):∀ own:List Nat,Ok K H (wipe σ own) (zbc e own) P
 | []=>h
 | i::is=>(Ok.wiped h is).forget i none
theorem Ok.hide (h:Ok K H σ e P):∀ own:List Nat,∃ R:List (V×M),Ok K H (wipe σ own) (zbc e own) (R++P)/\∀ H' e' P',e'.length=e.length->Ok K H' (wipe σ own) e' (R++P')->Ok K H' σ (zbd e own e') P'
 | []=>⟨[],h,λH' e' P' _ o=>o⟩
 | i::is=>by
   obtain ⟨R,o,back⟩:=Ok.hide h is
   by_cases hm:∃ m,(zbc e is)[i]?=some (some m)
   ·obtain ⟨m,hm⟩:=hm
    obtain ⟨v,hv,o1⟩:=o.take hm
    have o2:Ok K H (wipe σ (i::is)) (zbc e (i::is)) ((v,m)::(R++P)):=by
     have z:=Ok.forget o1 i none
     rw [ybh] at z
     exact z
    refine ⟨(v,m)::R,o2,λH' e' P' hl o' => ?_⟩
    have hi:i<(wipe σ is).length:=(yal.mp hv).1
    have el:e'.length=σ.length:=by rw [hl,h.1.length]
    have o3:Ok K H' (wipe σ (i::is)) e' ((v,m)::(R++P')):=o'
    have o4:=o3.store (by rw [el]; rw [wipe_length] at hi; exact hi)
    have es:(wipe σ (i::is)).set i (some v)=wipe σ is:=by
     show ((wipe σ is).set i none).set i (some v)=wipe σ is
     rw [ybh]
     apply yaS
     intro j
     by_cases z:i=j
     ·subst z
      rw [yaM hi,hv]
     ·rw [yaK z]
    rw [es] at o4
    have o5:=back H' _ P' (by rw [ybr,hl]) o4
    have em:e.getD i none=some m:=by
     have hw:∀ (is:List Nat) (m:M),(zbc e is)[i]?=some (some m)->e[i]?=some (some m):=by
      intro is
      induction is with
      | nil=>exact λm z=>z
      | cons k is ih =>
        intro m z
        unfold zbc at z
        by_cases e1:k=i
        ·subst e1
         by_cases l:k<(zbc e is).length
         ·rw [yaM l] at z
          cases z
         ·rw [yar (by rw [ybr]; omega)] at z
          cases z
        ·rw [yaK e1] at z
         exact ih m z
     rw [yaO,hw is m hm]
     rfl
    have uw:zbd e (i::is) e'=zbd e is (e'.set i (some m)):=by
     show (zbd e is e').set i (e.getD i none)=_
     rw [em]
     have comm:∀ (is:List Nat) (x:En),i∉is->(zbd e is x).set i (some m)=zbd e is (x.set i (some m)):=by
      intro is
      induction is with
      | nil=>intro x _; rfl
      | cons k is ih =>
        intro x hn
        have hk:i≠k:=λz=>hn (by simp [z])
        unfold zbd
        rw [ycA _ _ (ybR hk),ih x λz=>hn (yab _ z)]
     refine comm is e' λz => ?_
     have wn:∀ (is:List Nat),i∈is->∀ m,(zbc e is)[i]?≠some (some m):=by
      intro is
      induction is with
      | nil=>exact λz=>nomatch z
      | cons k is ih =>
        intro z m w
        unfold zbc at w
        by_cases e1:k=i
        ·subst e1
         by_cases l:k<(zbc e is).length
         ·rw [yaM l] at w
          cases w
         ·rw [yar (by rw [ybr]; omega)] at w
          cases w
        ·rw [yaK e1] at w
         exact ih ((yap.mp z).resolve_left (ybR e1)) m w
     exact wn is z m hm
    rw [uw]
    exact o5
   ·have o2:Ok K H (wipe σ (i::is)) (zbc e (i::is)) (R++P):=o.forget i none
    refine ⟨R,o2,λH' e' P' hl o' => ?_⟩
    have o3:=Ok.forget o' i ((wipe σ is).getD i none)
    have es:(wipe σ (i::is)).set i ((wipe σ is).getD i none)=wipe σ is:=by
     show ((wipe σ is).set i none).set i ((wipe σ is).getD i none)=wipe σ is
     rw [ybh]
     apply yaS
     intro j
     by_cases z:i=j
     ·subst z
      by_cases l:i<(wipe σ is).length
      ·rw [yaM l,yaO,yak l]
       rfl
      ·rw [ybK (by omega)]
     ·rw [yaK z]
    rw [es] at o3
    have o4:=back H' _ P' (by rw [ybr,hl]) o3
    by_cases him:i∈is
    ·-- the place is one of the others,too: it is set back by them
     have dup:∀ (is:List Nat) (x:En),i∈is->zbd e is (x.set i none)=zbd e is x:=by
      intro is
      induction is with
      | nil=>exact λx z=>nomatch z
      | cons k is ih =>
        intro x z
        unfold zbd
        by_cases e1:i=k
        ·subst e1
         by_cases him:i∈is
         ·rw [ih x him]
         ·have comm:∀ (is:List Nat) (x:En),i∉is->zbd e is (x.set i none)=(zbd e is x).set i none:=by
           intro is
           induction is with
           | nil=>intro x _; rfl
           | cons k is ih =>
             intro x hn
             have hk:i≠k:=λz=>hn (by simp [z])
             unfold zbd
             rw [ih x λz=>hn (yab _ z),ycA _ _ hk]
          rw [comm is x him,ybh]
        ·rw [ih x ((yap.mp z).resolve_left e1)]
     have same:∀ (is:List Nat) (x:En),i∈is->(zbd e is x).set i (e.getD i none)=zbd e is x:=by
      intro is
      induction is with
      | nil=>exact λx z=>nomatch z
      | cons k is ih =>
        intro x z
        unfold zbd
        by_cases e1:i=k
        ·subst e1
         rw [ybh]
        ·rw [ycA _ _ (ybR e1),ih x ((yap.mp z).resolve_left e1)]
     show Ok K H' σ ((zbd e is e').set i (e.getD i none)) P'
     rw [same is e' him,← dup is e' him]
     exact o4
    ·have comm:∀ (is:List Nat) (x:En),i∉is->zbd e is (x.set i none)=(zbd e is x).set i none:=by
      intro is
      induction is with
      | nil=>intro x _; rfl
      | cons k is ih =>
        intro x hn
        have hk:i≠k:=λz=>hn (by simp [z])
        unfold zbd
        rw [ih x λz=>hn (yab _ z),ycA _ _ hk]
     have eg:e.getD i none=none:=by
      cases q:e.getD i none with
      | none=>rfl
      | some m =>
        exfalso
        refine hm ⟨m,?_⟩
        have q':e[i]?=some (some m):=by
         rw [yaO] at q
         cases r:e[i]? with
         | none=>rw [r] at q; cases q
         | some z=>rw [r] at q; exact ya8 some q
        have wk:∀ is:List Nat,i∉is->(zbc e is)[i]?=e[i]?:=by
         intro is
         induction is with
         | nil=>intro _; rfl
         | cons k is ih =>
           intro hn
           unfold zbc
           rw [yaK λz=>hn (by simp [z])]
           exact ih λz=>hn (yab _ z)
        rw [wk is him]
        exact q'
     show Ok K H' σ ((zbd e is e').set i (e.getD i none)) P'
     rw [eg,← comm is e' him]
     exact o4
end
theorem zca (e:En):∀ own:List Nat,(zbc e own).length=e.length
 | []=>rfl
 | i::is=>by
   unfold zbc
   rw [ybr,zca e is]
theorem zfU {α:Type} (A R B:List α):(A++(R++B)).Perm (R++(A++B)):=by
 have e1:A++(R++B)=(A++R)++B:=(yae _ _ _).symm
 have e2:R++(A++B)=(R++A)++B:=(yae _ _ _).symm
 rw [e1,e2]
 exact yaC.append_right _
theorem zsl {y:Y} {tge:Expr} {wi:WI} {t:Tg} {tt:WT} {te:WE} {own:List Nat} {σ:L2.St} {H:Hp} {Q:VK} (htp:(isTp tge && !t.isTp)=false) (hi:zsd wi) (ht:ze6 tt) (he:zcp te) (hs:∀ i∈t.slots,i∈own)
 (h:zgK y (wLc wi t tt te own) σ H Q):tLc (liftI y tge wi) (t.tg y.X.K) (zrd ⟨y.X,y.xr,λ_ _ _ _=>False⟩ tt) (zgK ⟨y.X,y.xr,λ_ _ _ _=>False⟩ te) own σ H Q:=by
 obtain ⟨e,P,h0,q⟩:=h
 refine ⟨e,P,h0,hi _ _ _ _ _ (λds e1 q J H1 R wk o dd hD => ?_) (λ_ _ q=>q) q⟩
 obtain ⟨hlen,q⟩:=q
 obtain ⟨G,g⟩:=o.2.opn
 have oD:Ok y.X.K (upd H1 dd (.lst [])) σ e1 ((.ref dd,.lst [])::(R++P)):=⟨o.1,(g.res _ _ _ (.lst hD .nil)).perm yad.symm⟩
 obtain ⟨S,oS,back⟩:=oD.hide own
 let Bd:=λ(i:Nat) (H':Hp)=>∃ (e':En) (acc:List D),e'.length=e1.length/\acc.length<=i/\Ok y.X.K H' (wipe σ own) e' (S++((.ref dd,.lst acc)::(R++P))) /\
  lcGo t tt te own (ds.drop i) acc e' λacc e2=>∀ v H',Ok y.X.K H' σ (zbd e1 own e2) ((v,.lst acc)::P)->Q v H'
 refine ⟨λi m H'=>m=ds.length-i/\i<=ds.length/\Bd i H',⟨ds.length,by simp,ybd _,_,[],zca _ _,yaj _,oS,q⟩,?_⟩
 rintro i m H' ⟨rfl,hi,e',acc,el,al,o',q'⟩
 have hsep:Sep y.X.K H' (R++(prs (wipe σ own) e'++(S++((.ref dd,.lst acc)::P)))):=o'.2.perm (by
  have p1:(S++((V.ref dd,M.lst acc)::(R++P))).Perm (R++(S++((V.ref dd,M.lst acc)::P))):=by
   refine (yad (l₁:=S)).trans ?_
   refine List.Perm.trans ?_ ((yad (l₁:=S)).symm.append_left R)
   refine List.Perm.trans ?_ yad.symm
   refine List.Perm.cons _ ?_
   rw [← yae,← yae]
   exact yaC.append_right _
  exact (p1.append_left _).trans (zfU _ _ _))
 by_cases hlt:i<ds.length
 ·rw [ybj hlt] at q'
  obtain ⟨g1,g2⟩:=wk.go i H' _ ds[i] hsep (yak hlt)
  refine .inr ⟨g1,λH2=>Bd (i+1) H2,λH2 n=>⟨ds.length-(i+1),by omega,rfl,hlt,n⟩,λx H2 yl => ?_⟩
  have sx:=g2 x H2 yl
  unfold lcGo at q'
  split at q'
  ·rename_i e2 ea
   have pm:(R++(prs (wipe σ own) e'++(S++((V.ref dd,M.lst acc)::P)))).Perm (prs (wipe σ own) e'++(S++((V.ref dd,M.lst acc)::(R++P)))):=by
    have p1:(R++(S++((V.ref dd,M.lst acc)::P))).Perm (S++((V.ref dd,M.lst acc)::(R++P))):=by
     refine List.Perm.trans ?_ (yad (l₁:=S)).symm
     refine ((yad (l₁:=S)).append_left R).trans ?_
     refine yad.trans ?_
     refine List.Perm.cons _ ?_
     rw [← yae,← yae]
     exact yaC.append_right _
    exact List.Perm.trans (zfU _ _ _) (p1.append_left _)
   refine t.okG sx o'.1 pm htp ea λσ3 o3 bt => ?_
   have w3:wipe σ3 own=wipe (wipe σ own) own:=zjq bt hs
   have ww:wipe (wipe σ own) own=wipe σ own:=zjq (own:=own) ⟨wipe_length _ _,λj z=>by
    have k2:∀ vs:List Nat,j∉vs->(wipe σ vs)[j]?=σ[j]?:=by
     intro vs
     induction vs with
     | nil=>intro _; rfl
     | cons k vs ih =>
       intro hn
       unfold wipe
       rw [yaK λz=>hn (by simp [z])]
       exact ih λz=>hn (yab _ z)
    exact k2 own z⟩ λ_ z=>z
   refine ⟨w3.trans ww,?_⟩
   refine ⟨e2,_,o3,ht _ _ _ _ _ (λb e3 q H3 o4 => ?_) (λ_ _ q=>q.elim) q'⟩
   cases b with
   | true =>
     rw [yaw rfl] at q ⊢
     refine ⟨e3,_,o4,he _ _ _ _ _ (λm e4 q v H4 o5 => ?_) (λ_ _ q=>q.elim) q⟩
     have o6:Ok y.X.K H4 σ3 e4 ((.ref dd,.lst acc)::(v,.fz m.d)::(S++(R++P))):=(Ok.freeze o5).perm (by
      refine List.Perm.trans ?_ (List.Perm.swap _ _ _)
      exact List.Perm.cons _ yad)
     obtain ⟨G,p,F,ep,w,ex,oth,up,_,_⟩:=(o6.2.perm yad).mut rfl
     cases ep
     cases w with
     | lst hp rs =>
       refine ⟨_,hp,?_,e4.length |> λ_ => ?_⟩
       ·rw [rs.length]
        exact yby (ycm al hlt) hlen
       ·obtain ⟨F2,w2⟩:=oth (v,.fz m.d) (yag _ yaa)
        cases w2 with
        | fz w2 =>
          have z:=up _ _ (rs.append (.one w2))
          have o7:Ok y.X.K (upd H4 dd (.lst (_++[v]))) σ3 e4 ((.ref dd,.lst (acc++[m.d]))::(v,.fz m.d)::(S++(R++P))):=⟨o6.1,z.perm yad.symm⟩
          have o8:Ok y.X.K (upd H4 dd (.lst (_++[v]))) σ3 e4 (S++((.ref dd,.lst (acc++[m.d]))::(R++P))):=Ok.perm (Ok.pop (Ok.perm o7 (List.Perm.swap _ _ _))) yad.symm
          refine ⟨zbc e4 own,acc++[m.d],?_,by simp; exact al,?_,q⟩
          ·rw [zca,o8.1.length,bt.1,← o'.1.length,el]
          ·have o9:=o8.wiped own
           rw [w3,ww] at o9
           exact o9
   | false =>
     rw [yaz yax] at q ⊢
     refine ⟨zbc e3 own,acc,?_,ycw al,?_,q⟩
     ·rw [zca,o4.1.length,bt.1,← o'.1.length,el]
     ·have o9:=o4.wiped own
      rw [w3,ww] at o9
      exact o9
  ·exact q'.elim
 ·have e0:i=ds.length:=by omega
  subst e0
  rw [ybX] at q'
  refine .inl ⟨wk.stop _ H' _ hsep (yaj _),?_⟩
  refine q' (.ref dd) H' ?_
  have o9:=back H' e' ((.ref dd,.lst acc)::(R++P)) el o'
  exact Ok.pops (P:=R) (o9.perm yad.symm)
section
variable {y:Y} {κ:List (Nat×V)} {elt tg iter:Expr} {ifs:List Expr} {scope:Scope} {own:List (Str×Nat)} {pos:Pos} {wi:WI} {t:Tg} {tt:WT} {te:WE}
theorem se_lc (hc:y.X.calm=true) (hN:y.X.N.Nodup) (hi:SI y tg iter wi) (ok:BlkOk y.X.N y.X.env.scope scope own)
 (hg:∀ s H C cl fp,PG (y.blk s H scope C cl fp).X tg (t.tg y.X.K)) (ht:∀ s H C cl fp,STs (y.blk s H scope C cl fp) ifs tt) (he:∀ s H C cl fp,SE (y.blk s H scope C cl fp) elt te)
 (hs:∀ x,foldedSetIterable iter y.X.env x=pure x) (ho:∀ i∈t.slots,i∈own.map (·.2)) (mt:ze6 tt) (me:zcp te) (htp:(isTp tg && !t.isTp)=false):SE y (.ListComp elt [⟨tg,iter,ifs,0⟩] scope pos) (wLc wi t tt te (own.map (·.2))) where
 run:=zbb (pe_lc hc hN hi.run ok (λs H C cl fp=>hg s H C cl fp) (λs H C cl fp=>(ht s H C cl fp).run) (λs H C cl fp=>(he s H C cl fp).run) hs) λσ H Q q=>zsl htp hi.mono mt me ho q
 mono:=zl8 hi.mono mt me
theorem zvp {i:Nat} {x:Str} {py spos:Pos} (hc:y.X.calm=true) (hN:y.X.N.Nodup) (hy:y.X.N[i]?=some x) (hyl:y.X.env.scope.names.lookup x=some .local)
 (hsw:swapsWith (.ListComp elt [⟨tg,iter,ifs,0⟩] scope pos) (some (.Name x py)) spos.line y.X.env=pure true) (hi:SI y tg iter wi) (ok:BlkOk y.X.N y.X.env.scope scope own)
 (hg:∀ s H C cl fp,PG (y.blk s H scope C cl fp).X tg (t.tg y.X.K)) (ht:∀ s H C cl fp,STs (y.blk s H scope C cl fp) ifs tt) (he:∀ s H C cl fp,SE (y.blk s H scope C cl fp) elt te)
 (hs:∀ x,foldedSetIterable iter y.X.env x=pure x) (ho:∀ i∈t.slots,i∈own.map (·.2)) (mt:ze6 tt) (me:zcp te) (hκ:∀ p∈κ,p.1≠i) (htp:(isTp tg && !t.isTp)=false):SS y κ (.Assign [.Name x py] (.ListComp elt [⟨tg,iter,ifs,0⟩] scope pos) spos) (sSet i (wLc wi t tt te (own.map (·.2)))) where
 run:=zeB (ps_setLc hc hN hy hyl hsw hi.run ok (λs H C cl fp=>hg s H C cl fp) (λs H C cl fp=>(ht s H C cl fp).run) (λs H C cl fp=>(he s H C cl fp).run) hs) λD σ H ⟨e,P,hk,h0,q⟩ =>
  zsl htp hi.mono mt me ho ⟨e,P,h0,zl8 hi.mono mt me _ _ _ _ _ (λm e1 q v H1 o=>q _ H1 (hk.set hκ) (zfg i o)) (λ_ _ q c d H' r o=>q σ c d H' hk r o) q⟩
 mono:=λE E' e l q=>zl8 hi.mono mt me _ _ _ _ _ (λ_ _ q=>l.nx _ q) l.ex q
end
structure Fn where
 n:Nat
 kp:List Nat
 sp:List M->(M->En->Prop)->(Xn->Prop)->Prop
def zbm (sp:List M->(M->En->Prop)->(Xn->Prop)->Prop):Prop:=∀ ms Q Q' X X',(∀ m e,Q m e->Q' m e)->(∀ x,X x->X' x)->sp ms Q X->sp ms Q' X'
def spOf (K:PySem.W.Frag) (xr:Xn->Value->Option Addr->Hp->Prop) (fn:Fn):Sp:=λvs H Q E=>vs.length=fn.n/\∃ ms P,ms.length=vs.length/\Sep K H (vs.zip ms++P) /\
 fn.sp ms (λm ms'=>∀ v H',Sep K H' ((v,m)::(prs (vs.map some) ms'++P))->Q v H') (λx=>∀ c d H',xr x c d H'->Sep K H' P->E c d H')
def mvAs:List Opd->En->(List M->En->Prop)->Prop
 | [],e,k=>k [] e
 | .vl m::as,e,k=>mvAs as e λms e'=>k (m::ms) e'
 | .pk i::as,e,k=>match e[i]? with
   | some (some m)=>mvAs as (e.set i none) λms e'=>k (m::ms) e'
   | _=>False
 | .fd _ _ _::_,_,_=>False
def bkAs:List Opd->En->En->En
 | .pk i::as,m::ms,e=>bkAs as ms (e.set i m)
 | .vl _::as,_::ms,e=>bkAs as ms e
 | _,_,e=>e
def zaI (fn:Fn) (wa:WA):WE:=λe Q X=>wa e (λas e1=>mvAs as e1 λms e2=>ms.length=fn.n/\fn.sp ms (λm ms'=>Q m (bkAs as ms' e2)) (λx=>X x e2)) X
theorem zhx:∀ {as:List Opd} {e:En} {k k':List M->En->Prop},(∀ m e,k m e->k' m e)->mvAs as e k->mvAs as e k'
 | [],_,_,_,h,q=>h _ _ q
 | .vl m::as,_,_,_,h,q=>zhx (as:=as) (λms e' q=>h _ _ q) q
 | .fd _ _ _::_,_,_,_,_,q=>q.elim
 | .pk i::as,e,_,_,h,q=>by
   unfold mvAs at *
   split at q
   ·exact zhx (λms e' q=>h _ _ q) q
   ·exact q.elim
theorem zli {fn:Fn} {wa:WA} (hf:zbm fn.sp) (ha:zfS wa):zcp (zaI fn wa):=λe Q Q' X X' hq hx q =>
 ha _ _ _ _ _ (λas e1 q=>zhx (λms e2 q=>⟨q.1,hf _ _ _ _ _ (λm e q=>hq _ _ q) (λx q=>hx _ _ q) q.2⟩) q) hx q
section
variable {K:PySem.W.Frag} {H:Hp} {σ:L2.St}
theorem zl9:∀ {as:List Opd} {vs:List V} {e:En} {P:List (V×M)} {k:List M->En->Prop},Ok K H σ e (zc9 as vs++P)->zrc σ as vs->mvAs as e k->∃ ms e2,ms.length=vs.length/\Ok K H σ e2 (vs.zip ms++P)/\k ms e2
 | [],[],e,P,k,h,_,q=>⟨[],e,rfl,h,q⟩
 | [],_::_,_,_,_,_,p,_=>p.elim
 | _::_,[],_,_,_,_,p,_=>p.elim
 | .fd _ _ _::_,_::_,_,_,_,_,_,q=>q.elim
 | .vl m::as,v::vs,e,P,k,h,p,q=>by
   have h':Ok K H σ e (zc9 as vs++((v,m)::P)):=by
    have e1:zc9 (.vl m::as) (v::vs)++P=zc9 as vs++((v,m)::P):=by
     show (zc9 as vs++[(v,m)])++P=_
     rw [yae]
     rfl
    rw [← e1]
    exact h
   obtain ⟨ms,e2,l,o,q⟩:=zl9 (as:=as) h' p.2 q
   exact ⟨m::ms,e2,ya8 (· + 1) l,o.perm yad,q⟩
 | .pk i::as,v::vs,e,P,k,h,p,q=>by
   unfold mvAs at q
   split at q
   ·rename_i m e1
    have h':Ok K H σ e (zc9 as vs++P):=by
     have e2:zc9 (.pk i::as) (v::vs)++P=zc9 as vs++P:=by
      show (zc9 as vs++[])++P=_
      rw [yaQ]
     rw [← e2]
     exact h
    obtain ⟨v',ev,o1⟩:=h'.take e1
    have e3:some (some v)=some (some v'):=p.1.symm.trans ev
    cases e3
    obtain ⟨ms,e2,l,o,q⟩:=zl9 (as:=as) (o1.perm yad.symm) p.2 q
    exact ⟨m::ms,e2,ya8 (· + 1) l,o.perm yad,q⟩
   ·exact q.elim
theorem zvq {σ:L2.St} {i:Nat} {v:V} (g:σ[i]?=some (some v)):σ.set i (some v)=σ:=by
 have hi:=(yal.mp g).1
 apply yaS
 intro j
 by_cases z:i=j
 ·subst z
  rw [yaM hi,g]
 ·rw [yaK z]
theorem zjr (v:V) (vs:List V) (m:Option M) (ms:En):prs ((v::vs).map some) (m::ms)=(match m with
 | some m=>[(v,m)]
 | none=>[])++prs (vs.map some) ms:=by cases m<;>rfl
theorem zjT:∀ {as:List Opd} {vs:List V} {ms:En} {e:En} {R:List (V×M)},Ok K H σ e (prs (vs.map some) ms++R)->zrc σ as vs->Ok K H σ (bkAs as ms e) R
 | [],[],ms,e,R,h,_=>by
   have h':=Ok.pops h
   cases ms<;>exact h'
 | [],_::_,_,_,_,_,p=>p.elim
 | _::_,[],_,_,_,_,p=>p.elim
 | a::as,v::vs,[],e,R,h,p=>by
   have h':=Ok.pops h
   cases a<;>exact h'
 | .fd _ _ _::_,_::_,some _::_,_,_,h,_=>h.pops
 | .fd _ _ _::_,_::_,none::_,_,_,h,_=>h.pops
 | .vl m::as,v::vs,m'::ms,e,R,h,p=>by
   rw [zjr,yae] at h
   exact zjT (as:=as) h.pops p.2
 | .pk i::as,v::vs,some m::ms,e,R,h,p=>by
   rw [zjr,yae] at h
   exact zjT (as:=as) (Ok.give h p.1) p.2
 | .pk i::as,v::vs,none::ms,e,R,h,p=>by
   rw [zjr,yae] at h
   have h':=Ok.forget h i (some v)
   rw [zvq p.1] at h'
   exact zjT (as:=as) h' p.2
end
theorem znm {y:Y} {fn:Fn} {wa:WA} {σ:L2.St} {H:Hp} {Q:VK} (hf:zbm fn.sp) (ha:zfS wa) (h:zgK y (zaI fn wa) σ H Q) :
 tCallS (spOf y.X.K y.xr fn) (λσ c d H=>y.W c d σ H) (znj y wa) σ H Q:=by
 obtain ⟨e,P,h0,q⟩:=h
 refine ⟨e,P,h0,ha _ _ _ _ _ (λas e1 q vs H1 o => ?_) (λ_ _ q=>q) q⟩
 obtain ⟨o,p⟩:=o
 obtain ⟨ms,e2,l,o2,hn,q⟩:=zl9 o p q
 have sp:Sep y.X.K H1 (vs.zip ms++(prs σ e2++P)):=o2.2.perm (zfU _ _ _)
 refine ⟨by rw [← l,hn],ms,prs σ e2++P,l,sp,hf _ _ _ _ _ (λm ms' q v H' s=>q v H' ?_) (λx q c d H' r s=>q c d H' r ⟨o2.1,s⟩) q⟩
 have s':Sep y.X.K H' (prs σ e2++(prs (vs.map some) ms'++((v,m)::P))):=s.perm (by
  have p1:((v,m)::(prs (vs.map some) ms'++(prs σ e2++P))).Perm (prs (vs.map some) ms'++(prs σ e2++((v,m)::P))):=by
   refine List.Perm.trans ?_ ((yad.symm).append_left _)
   exact yad.symm
  exact p1.trans (zfU _ _ _))
 exact zjT (as:=as) ⟨o2.1,s'⟩ p
section
variable {y:Y} {CX:CXT} {k:Nat} {f:Addr} {fd:FuncData} {ps:List Str} {fn:Fn} {x:Str} {p pos:Pos} {e:Expr} {es:List Expr} {wa:WA}
theorem zx8 (F:FnOk y.X.prog y.X.w y.X.K y.X.mg y.X.base CX k f fd ps (spOf y.X.K y.xr fn)) (hr:Room k y.X.A) (hg:Gl y.X x) (hm:y.X.mg x=some (.ref f)) (hk:PySem.W.keepIn y.X.K (.ref f)=true) (hb:Binds y.X.K fd ps [])
 (hx:∀ σ,PassesAt CX y.X σ (λc d H=>y.W c d σ H)) (hf:zbm fn.sp) (ha:SA y (e::es) wa) (hdb:(x==("__debug__" : Str))=false) (he:starEach (e::es) y.X.env=(false,eval e y.X.env)::starEach es y.X.env) (hpl:(backTo pos (starEach es y.X.env)).any (·.1)=false) :
 SE y (.Call (.Name x p) (e::es) [] pos) (zaI fn wa) where
 run:=zbb (pe_callS (E:=λσ c d H=>y.W c d σ H) F hr hg hm hk hb hx ha.run hdb he hpl) λσ H Q q=>znm hf ha.mono q
 mono:=zli hf ha.mono
end
def giv (kp:List Nat) (n:Nat) (e:En):En:=(List.range n).map λi=>if i∈kp then (e[i]?).join else none
def wFn (N n:Nat) (kp:List Nat) (w:WS):List M->(M->En->Prop)->(Xn->Prop)->Prop:=λms Q X =>
 w { nx:=λe'=>Q (.fz .non) (giv kp n e'),rt:=λm e'=>Q m (giv kp n e'),bk:=λ_=>False,ct:=λ_=>False,ex:=λx _=>X x } (ms.map some++List.replicate (N-n) none)
theorem znn:∀ {vs:List V} {ms:List M} (k:Nat),ms.length=vs.length->prs (vs.map some++List.replicate k none) (ms.map some++List.replicate k none)=vs.zip ms/\Al (vs.map some++List.replicate k none) (ms.map some++List.replicate k none)
 | [],[],k,_=>by
   show prs (List.replicate k none) (List.replicate k none)=[]/\Al (List.replicate k none) (List.replicate k none)
   induction k with
   | zero=>exact ⟨rfl,trivial⟩
   | succ k ih=>exact ih
 | v::vs,m::ms,k,h=>by
   obtain ⟨h1,h2⟩:=znn (vs:=vs) (ms:=ms) k (Nat.succ.inj h)
   exact ⟨ya8 ((v,m) :: ·) h1,h2⟩
 | [],_::_,_,h=>by cases h
 | _::_,[],_,h=>by cases h
def zbz (kp:List Nat) (vs:List V):List (Nat×V):=(kp.filter (· < vs.length)).map λi=>(i,vs.getD i .non)
theorem zsm {kp:List Nat} {vs:List V} {n i:Nat} (hl:vs.length=n) (h:(kp.contains i&&decide (i<n))=true):∃ v,(i,v)∈zbz kp vs:=by
 rw [yas] at h
 exact ⟨_,yan.mpr ⟨i,ybk.mpr ⟨by simpa using h.1,yaf (by rw [hl]; exact yao h.2)⟩,rfl⟩⟩
theorem zre {kp:List Nat} {vs:List V} {k:Nat}:Kept (zbz kp vs) (vs.map some++List.replicate k none):=λp hp=>by
 obtain ⟨i,hi,rfl⟩:=yan.mp hp
 have hl:i<vs.length:=yao (ybk.mp hi).2
 show (vs.map some++List.replicate k none)[i]?=some (some (vs.getD i .non))
 rw [ybl (by simpa using hl),yaI,yak hl,yaO,yak hl]
 rfl
theorem Ok.zero {K:PySem.W.Frag} {H:Hp} {σ:L2.St} {e:En} {P:List (V×M)} (h:Ok K H σ e P):Sep K H P:=Sep.right h.2
theorem zw3 {K:PySem.W.Frag} {H:Hp} {P:List (V×M)} {σ:L2.St} {e:En} {kp:List Nat} {vs:List V} (h:Ok K H σ e P) (hk:Kept (zbz kp vs) σ):Sep K H (prs (vs.map some) (giv kp vs.length e)++P):=by
 have key:∀ (n:Nat),n<=vs.length->∃ e2,(∀ i,i<vs.length-n->e2[i]?=e[i]?)/\Ok K H σ e2 (prs ((vs.drop (vs.length-n)).map some) ((giv kp vs.length e).drop (vs.length-n))++P):=by
  intro n
  induction n with
  | zero =>
    intro _
    refine ⟨e,λ_ _=>rfl,?_⟩
    rw [Nat.sub_zero,ybX]
    exact h
  | succ n ih =>
    intro hn
    obtain ⟨e2,he,o⟩:=ih (by omega)
    obtain ⟨j,hj⟩:∃ j,j=vs.length-(n+1):=⟨_,rfl⟩
    have hj1:vs.length-n=j+1:=by omega
    have hjl:j<vs.length:=by omega
    rw [← hj]
    rw [hj1] at o he
    have hgl:j<(giv kp vs.length e).length:=by unfold giv; simp; exact hjl
    have hg:(giv kp vs.length e)[j]=if j∈kp then (e[j]?).join else none:=by
     have z:(giv kp vs.length e)[j]?=some (if j∈kp then (e[j]?).join else none):=by
      unfold giv
      rw [yaI,yaU hjl]
      rfl
     rw [yak hgl] at z
     exact yaT z
    rw [ybj hjl,ybj hgl,zjr,hg]
    by_cases hkp:j∈kp
    ·rw [yaw hkp]
     cases q:(e[j]?).join with
     | none =>
       exact ⟨e2,λi hi=>he i (by omega),o⟩
     | some m =>
       have e1:e2[j]?=some (some m):=by
        rw [he j (by omega)]
        cases r:e[j]? with
        | none=>rw [r] at q; cases q
        | some z=>rw [r] at q; exact ya8 some q
       obtain ⟨v,ev,o2⟩:=o.take e1
       have hp:(j,vs.getD j .non)∈zbz kp vs:=yan.mpr ⟨j,ybk.mpr ⟨hkp,yaf hjl⟩,rfl⟩
       have kv:σ[j]?=some (some (vs.getD j .non)):=hk _ hp
       have ee:some (some v)=some (some (vs.getD j .non)):=ev.symm.trans kv
       cases ee
       have eg:vs.getD j .non=vs[j]:=by
        rw [yaO,yak hjl]
        rfl
       rw [eg] at o2
       refine ⟨e2.set j none,λi hi => ?_,o2⟩
       rw [yaK (by omega)]
       exact he i (by omega)
    ·rw [yaz hkp]
     exact ⟨e2,λi hi=>he i (by omega),o⟩
 obtain ⟨e2,_,o⟩:=key vs.length (yaj _)
 rw [Nat.sub_self] at o
 exact o.zero
section
variable {P:Program} {w:World} {K:PySem.W.Frag} {mg:Str->Option Value} {base:Heap}
abbrev yOf (P:Program) (w:World) (K:PySem.W.Frag) (mg:Str->Option Value) (base:Heap) (xr:Xn->Value->Option Addr->Hp->Prop) (N:List Str) (qual:Str) (scope:Scope) (f:Addr) (cdv:Value) (A:Around) (outer:List Env) (s:Shared) (H:Hp) (E:XK):Y :=
 ⟨cxOf (L2.CX P w) P w K mg base N qual scope f cdv A outer s H E,xr,λc d _ H=>E c d H⟩
theorem zvr {x qual:Str} {st:Stmt} {f:Addr} {fd:FuncData} {N ps:List Str} {k:Nat} {kp:List Nat} {wb:WS} {xr:Xn->Value->Option Addr->Hp->Prop} (F:Fun K x qual st f fd) (S:FnScope N ps (defScope st))
 (hb:∀ cdv A outer s H E vs,vs.length=ps.length->Room k (A.deeper (envOfC qual (defScope st) s.heap.objs.size f cdv))->SSs (yOf P w K mg base xr N qual (defScope st) f cdv A outer s H E) (zbz kp vs) (defBody st) wb) :
 FnOk P w K mg base (L2.CX P w) (k+1) f fd ps (spOf K xr ⟨ps.length,kp,wFn N.length ps.length kp wb⟩):=by
 refine F.okX S (λvs H Q E h=>h.1) (λcdv A outer s H vs Q E hr h => ?_)
 obtain ⟨hl,ms,R,hm,sp,q⟩:=h
 have hl:vs.length=ps.length:=hl
 have B:=hb cdv A outer s H E vs hl hr
 refine ⟨_,B.run,?_⟩
 obtain ⟨p1,p2⟩:=znn (vs:=vs) (ms:=ms) (N.length-vs.length) hm
 have ok:Ok K H (start N vs) (ms.map some++List.replicate (N.length-ps.length) none) R:=by
  rw [← hl]
  refine ⟨p2,?_⟩
  show Sep K H (prs (vs.map some++List.replicate (N.length-vs.length) none) (ms.map some++List.replicate (N.length-vs.length) none)++R)
  rw [p1]
  exact sp
 refine ⟨_,R,zre,ok,?_⟩
 refine B.mono { nx:=λe'=>_,rt:=λm e'=>_,bk:=λ_=>False,ct:=λ_=>False,ex:=λx _=>_ } _ _ ⟨λe' q σ' H' hk o => ?_,λm e' q σ' v H' hk o => ?_,λ_ z=>z.elim,λ_ z=>z.elim,λx e' q σ' c d H' hk r o => ?_⟩ q
 ·have o':Ok K H' σ' e' ((.non,.fz .non)::R):=by
   obtain ⟨G,g⟩:=o.2.opn
   exact ⟨o.1,(g.res _ _ _ (.same .non)).perm yad.symm⟩
  refine q .non H' ?_
  have z:=zw3 o' hk
  rw [hl] at z
  exact z.perm yad
 ·refine q v H' ?_
  have z:=zw3 o hk
  rw [hl] at z
  exact z.perm yad
 ·exact q c d H' r o.zero
end
def sgn (c:Nat):D:=.str ⟨#[c]⟩
def zno:D->Option (List D)
 | .tup ds=>some ds
 | .lst ds=>some ds
 | .str s=>some (s.cps.toList.map sgn)
 | _=>none
def iSeq (w:WE):WI:=λe Q X=>w e (λm e1=>match zno m.d with
 | some ds=>Q ds e1
 | none=>False) X
section
variable {K:PySem.W.Frag}
theorem zeU {H:Hp} {x:V} {d:D} {L:List (V×M)} (h:Sep K H ((x,.fz d)::L)):∃ G,Ex G H/\Rep K G x d/\∀ v d,Rep K G v d->Sep K H ((v,.fz d)::(x,.fz d)::L)\/True:=by
 obtain ⟨G,g⟩:=h.opn
 obtain ⟨F,w⟩:=g.own (x,.fz d) yaa
 cases w with
 | fz w=>exact ⟨G,g.ex,w,λ_ _ _=>.inr trivial⟩
theorem zjs {H:Hp} {x:V} {d d':D} {v:V} {L:List (V×M)} (h:Sep K H ((x,.fz d)::L)) (f:∀ G,Ex G H->Rep K G x d->Rep K G v d'):Sep K H ((v,.fz d')::(x,.fz d)::L):=by
 obtain ⟨G,g⟩:=h.opn
 obtain ⟨F,w⟩:=g.own (x,.fz d) yaa
 cases w with
 | fz w=>exact g.res _ _ _ (.same (f G g.ex w))
theorem znp {tp:Bool} {a:Addr} {ds:List D}:Walks K tp (Itt K a) ds [(.ref a,.fz (.tup ds))] where
 go:=λi H L d h e=>by
  have h:Sep K H ((.ref a,.fz (.tup ds))::L):=h
  obtain ⟨G,ex,r,_⟩:=zeU h
  cases r with
  | tup hs rs =>
    obtain ⟨v,hv,_⟩:=rs.at e
    refine ⟨⟨_,v,(hs.mono ex).sqT,hv⟩,λx H' yl => ?_⟩
    obtain ⟨rfl,hx⟩:=yl
    refine .inl (zjs h λG' ex' r' => ?_)
    cases r' with
    | tup hs' rs' =>
      obtain ⟨v',hv',rv'⟩:=rs'.at e
      have:=hx _ (hs'.mono ex').sqT
      rw [hv'] at this
      cases this
      exact rv'
 stop:=λi H L h hl=>by
  have h:Sep K H ((.ref a,.fz (.tup ds))::L):=h
  obtain ⟨G,ex,r,_⟩:=zeU h
  cases r with
  | tup hs rs=>exact ⟨_,(hs.mono ex).sqT,by rw [rs.length]; exact hl⟩
theorem znq {tp:Bool} {a:Addr} {ds:List D}:Walks K tp (Itl K a) ds [(.ref a,.fz (.lst ds))] where
 go:=λi H L d h e=>by
  have h:Sep K H ((.ref a,.fz (.lst ds))::L):=h
  obtain ⟨G,ex,r,_⟩:=zeU h
  cases r with
  | lst hs rs =>
    obtain ⟨v,hv,_⟩:=rs.at e
    refine ⟨⟨_,v,(SqL.of (ex.keep hs)),hv⟩,λx H' yl => ?_⟩
    obtain ⟨rfl,hx⟩:=yl
    refine .inl (zjs h λG' ex' r' => ?_)
    cases r' with
    | lst hs' rs' =>
      obtain ⟨v',hv',rv'⟩:=rs'.at e
      have:=hx _ (SqL.of (ex'.keep hs'))
      rw [hv'] at this
      cases this
      exact rv'
 stop:=λi H L h hl=>by
  have h:Sep K H ((.ref a,.fz (.lst ds))::L):=h
  obtain ⟨G,ex,r,_⟩:=zeU h
  cases r with
  | lst hs rs=>exact ⟨_,(SqL.of (ex.keep hs)),by rw [rs.length]; exact hl⟩
theorem zib {H:Hp} {L:List (V×M)} {v:V} {d:D} (h:Sep K H L) (r:∀ G,Rep K G v d):Sep K H ((v,.fz d)::L):=by
 obtain ⟨G,g⟩:=h.opn
 exact g.res _ _ _ (.same (r G))
theorem zsn {tp:Bool} {s:Str}:Walks K tp (Its s) (s.cps.toList.map sgn) [] where
 go:=λi H L d h e=>by
  rw [yaI] at e
  cases q:s.cps.toList[i]? with
  | none=>rw [q] at e; cases e
  | some c =>
    rw [q] at e
    cases e
    have hi:i<s.cps.size:=by
     have:=(yal.mp q).1
     rwa [ya3] at this
    refine ⟨hi,λx H' yl => ?_⟩
    obtain ⟨rfl,c',hc,rfl⟩:=yl
    rw [Array.getElem?_toList,hc] at q
    cases q
    exact .inl (zib h λG=>.str _)
 stop:=λi H L h hl=>by
  rw [yac,ya3] at hl
  exact hl
def rngD (lo:Int) (n:Nat):List D:=(List.range n).map λ(k:Nat)=>D.int (lo+(k:Int))
theorem zso {tp:Bool} {lo:Int} {n:Nat}:Walks K tp (Itr lo n) (rngD lo n) [] where
 go:=λi H L d h e=>by
  have hi:i<n:=by
   have:=(yal.mp e).1
   unfold rngD at this
   simpa using this
  unfold rngD at e
  rw [yaI,yaU hi] at e
  cases e
  refine ⟨hi,λx H' yl => ?_⟩
  obtain ⟨rfl,rfl⟩:=yl
  exact .inl (zib h λG=>.int _)
 stop:=λi H L h hl=>by
  unfold rngD at hl
  have z:n<=i:=by simpa using hl
  exact z
end
section
variable {X:Cx} {pins:List (Addr×Obj)} {σ:L2.St} {H:Hp} {s:Shared} {tg:Expr} {R:It->Hp->Prop} {a:Addr} {xs:List V}
theorem zx9 (I:Inv X pins σ H s) (hq:SqL X.K H a xs) (q:R (Itl X.K a) H):wpAny (model X.prog X.w) X.A (pyIter (.ref a)) (PIE X pins σ tg R) X.xe s:=by
 obtain ⟨its,_,p,_⟩:=I.list hq
 refine wpAny_pyIter_list p.isList ⟨_,[s.heap.objs.size],_,_,H,rfl,I.kept (t':=s.toks) ?_,turn_list a _,⟨_,Heap.get?_push_size _ rfl,rfl,rfl⟩,?_,q⟩
 ·exact λb o e=>Heap.get?_push_of_some _ e
 ·intro b hb
  have e:b=s.heap.objs.size:=by simpa using hb
  rw [e]
  exact I.fpOk (yaj _) (I.hok.fresh (yaj _))
theorem iterT (I:Inv X pins σ H s) (hq:SqT X.K H a xs) (q:R (Itt X.K a) H):wpAny (model X.prog X.w) X.A (pyIter (.ref a)) (PIE X pins σ tg R) X.xe s:=by
 obtain ⟨its,_,p,_⟩:=I.tuple hq
 refine wpAny_pyIter_tuple (show s.heap.IsTuple a its.toArray from p) ⟨_,[s.heap.objs.size],_,_,H,rfl,I.kept (t':=s.toks) ?_,turn_tuple a _,⟨_,Heap.get?_push_size _ rfl,rfl,rfl⟩,?_,q⟩
 ·exact λb o e=>Heap.get?_push_of_some _ e
 ·intro b hb
  have e:b=s.heap.objs.size:=by simpa using hb
  rw [e]
  exact I.fpOk (yaj _) (I.hok.fresh (yaj _))
end
section
variable {X:Cx} {pins:List (Addr×Obj)} {σ:L2.St} {H:Hp} {s:Shared} {tg:Expr} {R:It->Hp->Prop}
theorem iterS {x:Str} {t:Tok} (I:Inv X pins σ H s) (q:R (Its x) H):wpAny (model X.prog X.w) X.A (pyIter (.str x t)) (PIE X pins σ tg R) X.xe s:=by
 cases ha:x.cps.all (· < 128) with
 | false=>exact wpAny_pyIter_wide ha (pi_one (tk:=s.toks) I _ (turn_str _ x t "str_iterator" (.inr rfl)) ⟨_,Heap.get?_push_size _ rfl,rfl,rfl⟩ q)
 | true=>exact wpAny_pyIter_ascii ha (pi_one (tk:=s.toks) I _ (turn_str _ x t "str_ascii_iterator" (.inl rfl)) ⟨_,Heap.get?_push_size _ rfl,rfl,rfl⟩ q)
end
section
variable {y:Y} {tg iter:Expr} {w:WE}
theorem zdw (h:SE y iter w):SI y tg iter (iSeq w) where
 run:=⟨λpins s σ H R I ⟨e,P,h0,q⟩=>by
  refine thn (h.run.run pins s σ H (λv H1=>∃ (m:M) (ds:List D) (e1:En),zno m.d=some ds/\Ok y.X.K H1 σ e1 ((v,.fz m.d)::P)/\∀ J H1 R',Walks y.X.K (isTp tg) J ds R'->Ok y.X.K H1 σ e1 (R'++P)->R J H1) I ⟨e,P,h0,h.mono _ _ _ _ _ (λm e1 q v H1 o => ?_) (λ_ _ q=>q) q⟩) λv s1 ⟨x,H1,I1,r1,m,ds,e1,em,o,q⟩ => ?_
  ·split at q
   ·rename_i ds em
    exact ⟨m,ds,e1,em,o.freeze,q⟩
   ·exact q.elim
  ·obtain ⟨G,g⟩:=o.2.opn
   obtain ⟨F,w⟩:=g.own (x,.fz m.d) (yag _ yaa)
   cases w with
   | fz w =>
     generalize m.d=d at w em o
     cases w with
     | tup hs rs =>
       cases em
       cases r1
       exact iterT I1 ((hs.mono g.ex).sqT) (q _ H1 _ znp o)
     | lst hs rs =>
       cases em
       cases r1
       exact zx9 I1 (SqL.of (g.ex.keep hs)) (q _ H1 _ znq o)
     | str x =>
       cases em
       obtain ⟨t,rfl⟩:=r1
       exact iterS I1 (q _ H1 _ zsn o.pop)
     | non=>cases em
     | bl _=>cases em
     | int _=>cases em
     | ty _=>cases em
     | opq _=>cases em
     | att _ _=>cases em
     | adr _=>cases em
     | atx _ _=>cases em
     | scr _=>cases em
     | dK _ _=>cases em
     | dT _ _=>cases em⟩
 mono:=λe Q Q' X X' hq hx q=>h.mono _ _ _ _ _ (λm e1 q=>by
  split at q
  ·exact hq _ _ q
  ·exact q.elim) hx q
end
def rngB (i:Int):Prop:=-(2 ^ 62)<=i/\i<2 ^ 62
def zdd (m:M) (k:Int->Prop):Prop:=match m with
 | .fz (.int j)=>k j
 | _=>False
theorem zaT {m:M} {k k':Int->Prop} (h:∀ i,k i->k' i) (q:zdd m k):zdd m k':=by
 unfold zdd at *
 split at q
 ·exact h _ q
 ·exact q.elim
theorem za5 {K:PySem.W.Frag} {G H:Hp} {v:V} {m:M} {k:Int->Prop} (w:∃ F,Own K G H v m F) (q:zdd m k):∃ i,v=.int i/\k i:=by
 unfold zdd at q
 split at q
 ·obtain ⟨F,w⟩:=w
  cases w with
  | fz w =>
    cases w
    exact ⟨_,rfl,q⟩
 ·exact q.elim
def iR1 (o:WO):WI:=λe Q X=>o e (λa e1=>zaS a e1 λm=>zdd m λj=>rngB j/\Q (rngD 0 j.toNat) e1) X
def rngC (i c:Int) (n:Nat):List D:=(List.range n).map λ(k:Nat)=>D.int (i+(k:Int)*c)
def iR3 (o o' o'':WO):WI:=λe Q X=>o e (λa e1=>o' e1 (λb e2=>o'' e2 (λc e3=>zaS a e3 λm=>zaS b e3 λm'=>zaS c e3 λm''=>zdd m λi=>zdd m' λj=>zdd m'' λc=>∃ n,RgC i j c n/\Q (rngC i c n) e3) X) X) X
theorem zrf {K:PySem.W.Frag} {tp:Bool} {i c:Int} {n:Nat}:Walks K tp (Itc i c n) (rngC i c n) [] where
 go:=λk H L d h e=>by
  have hi:k<n:=by
   have:=(yal.mp e).1
   unfold rngC at this
   simpa using this
  unfold rngC at e
  rw [yaI,yaU hi] at e
  cases e
  refine ⟨hi,λx H' yl => ?_⟩
  obtain ⟨rfl,rfl⟩:=yl
  exact .inl (zib h λG=>.int _)
 stop:=λk H L h hl=>by
  unfold rngC at hl
  have z:n<=k:=by simpa using hl
  exact z
section
variable {y:Y} {tg a b c:Expr} {o o' o'':WO} {p pos:Pos}
theorem zsp (hg:Gl y.X "range") (hm:y.X.mg "range" = none) (ha:SO y a o) (hs:starEach [a] y.X.env=[(false,eval a y.X.env)]):SI y tg (.Call (.Name "range" p) [a] [] pos) (iR1 o) where
 run:=zw0 (pi_range1 hg hm (zd4 ha zad hs).run hs) λσ H R ⟨e,P,h0,q⟩=>by
  refine ⟨e,P,h0,ha.mono _ _ _ _ _ (λa e1 q vs H1 o => ?_) (λ_ _ q=>q) q⟩
  obtain ⟨o,p⟩:=o
  match vs,p with
  | [v],p =>
    obtain ⟨G,g⟩:=o.2.opn
    obtain ⟨m,m1,q⟩:=za4 o (λp z=>yai _ (yag _ z)) p.1 q
    obtain ⟨j,rfl,q1,q2⟩:=za5 (g.ownX _ m1) q
    exact ⟨j,rfl,q1.1,q1.2,q2 _ H1 [] zso o.pops⟩
 mono:=λe Q Q' X X' hq hx q=>ha.mono _ _ _ _ _ (λa e1 q=>zaF (λm q=>zaT (λj q=>⟨q.1,hq _ _ q.2⟩) q) q) hx q
theorem zsq (hg:Gl y.X "range") (hm:y.X.mg "range" = none) (ha:SO y a o) (hb:SO y b o') (hc:SO y c o'') (hs:starEach [a,b,c] y.X.env=[(false,eval a y.X.env),(false,eval b y.X.env),(false,eval c y.X.env)]) (hs2:starEach [b,c] y.X.env=[(false,eval b y.X.env),(false,eval c y.X.env)])
 (hs3:starEach [c] y.X.env=[(false,eval c y.X.env)]):SI y tg (.Call (.Name "range" p) [a,b,c] [] pos) (iR3 o o' o'') where
 run:=zw0 (pi_range3 hg hm (zd4 ha (zd4 hb (zd4 hc zad hs3) (by rw [hs2,hs3])) (by rw [hs,hs2])).run (by rw [hs,hs2]) (by rw [hs2]; rfl)) λσ H R ⟨e,P,h0,q⟩=>by
  refine ⟨e,P,h0,ha.mono _ _ _ _ _ (λa e1 q=>show o' e1 (λb e2=>o'' e2 (λc e3=>∀ vs H',OkA y.X.K H' σ e3 [a,b,c] vs P->_) _) _ from hb.mono _ _ _ _ _ (λb e2 q=>hc.mono _ _ _ _ _ (λc e3 q vs H1 o => ?_) (λ_ _ q=>q) q) (λ_ _ q=>q) q) (λ_ _ q=>q) q⟩
  obtain ⟨o,p⟩:=o
  match vs,p with
  | [v,u,t],p =>
    obtain ⟨G,g⟩:=o.2.opn
    obtain ⟨m,m1,q⟩:=za4 o (λp z=>yai _ (yag _ z)) p.1 q
    obtain ⟨m',m2,q⟩:=za4 o (λp z=>yai _ (yai _ (yag _ z))) p.2.1 q
    obtain ⟨m'',m3,q⟩:=za4 o (λp z=>yai _ (yai _ (yai _ (yag _ z)))) p.2.2.1 q
    obtain ⟨i,rfl,q⟩:=za5 (g.ownX _ m1) q
    obtain ⟨j,rfl,q⟩:=za5 (g.ownX _ m2) q
    obtain ⟨c,rfl,n,q1,q2⟩:=za5 (g.ownX _ m3) q
    exact ⟨i,j,c,n,rfl,q1,q2 _ H1 [] zrf o.pops⟩
 mono:=λe Q Q' X X' hq hx q=>ha.mono _ _ _ _ _ (λa e1 q=>hb.mono _ _ _ _ _ (λb e2 q=>hc.mono _ _ _ _ _ (λc e3 q=>zaF (λm q=>zaF (λm q=>zaF (λm q=>zaT (λj q=>zaT (λj q=>zaT (λj ⟨n,q1,q2⟩=>⟨n,q1,hq _ _ q2⟩) q) q) q) q) q) q) hx q) hx q) hx q
end
abbrev OPM:=M->List M->(D->M->Prop)->Prop
structure SndM (K:PySem.W.Frag) (T:String) (r:V->List V->Hp->VK->Prop) (op:OPM):Prop where
 run:∀ G H p m F xs ms (Q:VK),Ex G H->Own K G H (.ref p) m F->Owns K G H xs ms->op m ms (λd m'=>∀ v H',Rep K G v d->zrb K G H p m' H'->Q v H')->r (.ref p) xs H Q
 mono:∀ a b (q q':D->M->Prop),(∀ d m,q d m->q' d m)->op a b q->op a b q'
def isTy (T:String):M->Bool
 | .lst _=>T == "list"
 | .dK _=>T == "dict"
 | .dT _=>T == "dict"
 | _=>false
def wMut (T:String) (op:OPM) (i:Nat) (wa:WA):WE:=λe Q X=>match e[i]? with
 | some (some m0)=>isTy T m0=true/\wa e (λas e1=>match e1[i]? with
   | some (some m)=>isTy T m=true/\zbQ as (e1.set i none) λms=>op m ms λd m'=>Q (.fz d) (e1.set i (some m'))
   | _=>False) X
 | _=>False
def Ins (L:List (V×M)):List V->List M->Prop
 | v::vs,m::ms=>(v,m)∈L/\Ins L vs ms
 | [],[]=>True
 | _,_=>False
theorem Ins.owns {K:PySem.W.Frag} {G H:Hp} {L:List (V×M)} (o:∀ q∈L,∃ F,Own K G H q.1 q.2 F):∀ {vs:List V} {ms:List M},Ins L vs ms->Owns K G H vs ms
 | [],[],_=>trivial
 | _::_,_::_,h=>⟨o _ h.1,Ins.owns o h.2⟩
 | [],_::_,h=>h.elim
 | _::_,[],h=>h.elim
theorem zjU {K:PySem.W.Frag} {H:Hp} {σ:L2.St} {e:En}:∀ {as:List Opd} {vs:List V} {k:List M->Prop} {R:List (V×M)},Ok K H σ e R->(∀ p∈zc9 as vs,p∈R)->zrc σ as vs->zbQ as e k->∃ ms,Ins (exL (prs σ e++R)) vs ms/\k ms
 | [],[],_,_,_,_,_,q=>⟨[],trivial,q⟩
 | [],_::_,_,_,_,_,hp,_=>hp.elim
 | _::_,[],_,_,_,_,hp,_=>hp.elim
 | a::as,v::vs,k,R,h,hs,hp,q=>by
   obtain ⟨m,hm,q⟩:=za4 h (λp z=>hs p (yag _ z)) hp.1 q
   obtain ⟨ms,ho,q⟩:=zjU h (λp z=>hs p (yai _ z)) hp.2 q
   exact ⟨m::ms,⟨hm,ho⟩,q⟩
theorem zma {T:String} {m:M} (h:isTy T m=true):m.isP=true:=by
 cases m<;>first | rfl | cases h
theorem zjt {m:M} (h:m.isP=true):zoW m=[]:=by
 cases m<;>first | rfl | cases h
theorem zpY {K:PySem.W.Frag} {G H:Hp} {T:String} {v:V} {m:M} {F:List Addr} (h:isTy T m=true) (w:Own K G H v m F):tyV K T v H:=by
 cases w with
 | fz w=>cases h
 | lst w r=>exact .inl ⟨by simpa [isTy] using h,_,.of w⟩
 | dK w r=>exact .inr (.inr (.inl ⟨by simpa [isTy] using h,.inl ⟨_,w⟩⟩))
 | dT w r=>exact .inr (.inr (.inl ⟨by simpa [isTy] using h,.inr ⟨_,w⟩⟩))
 | lk w r=>cases h
 | bx _ _ _ _=>cases h
 | dq _=>cases h
 | dA _ _=>cases h
 | ob _ _=>cases h
theorem zsr {T:String} {op:OPM} {i:Nat} {wa:WA} {K:PySem.W.Frag} {r:V->List V->Hp->VK->Prop} (hs:SndM K T r op) (ha:zfS wa):zcp (wMut T op i wa):=λe Q Q' X X' hq hx q=>by
 unfold wMut at *
 split at q
 ·refine ⟨q.1,ha _ _ _ _ _ (λas e1 q => ?_) hx q.2⟩
  split at q
  ·exact ⟨q.1,zdA (λms q=>hs.mono _ _ _ _ (λd m q=>hq _ _ q) q) q.2⟩
  ·exact q.elim
 ·exact q.elim
section
variable {y:Y} {T:String} {op:OPM} {i:Nat} {wa:WA} {r:V->List V->Hp->VK->Prop}
theorem zvs (hs:SndM y.X.K T r op) (ha:zfS wa) (σ:L2.St) (H:Hp) (Q:VK) (h:zgK y (wMut T op i wa) σ H Q):tVar i σ H λx H1=>tyV y.X.K T x H1/\znj y wa σ H1 λxs H2=>r x xs H2 Q:=by
 obtain ⟨e,P,h0,q⟩:=h
 unfold wMut at q
 split at q
 ·rename_i m0 e0
  obtain ⟨t0,q⟩:=q
  obtain ⟨v,ev,mem⟩:=h0.peek e0
  obtain ⟨G,g⟩:=h0.2.opn
  obtain ⟨F,w⟩:=g.own _ mem
  refine ⟨v,ev,zpY t0 w,e,P,h0,ha _ _ _ _ _ (λas e1 q vs H1 o => ?_) (λ_ _ q=>q) q⟩
  obtain ⟨o,p⟩:=o
  split at q
  ·rename_i m em
   obtain ⟨tm,q⟩:=q
   have o':Ok y.X.K H1 σ e1 (zc9 as vs++P):=o
   obtain ⟨v',ev',om⟩:=o'.take em
   have e3:some (some v)=some (some v'):=ev.symm.trans ev'
   cases e3
   obtain ⟨G1,p1,F1,rfl,w1,ex1,oth,up⟩:=(om.2.perm yad).mutR (zma tm)
   obtain ⟨ms,ins,q⟩:=zjU om (λp z=>yab _ (yai _ z)) p q
   have ow:Owns y.X.K G1 H1 vs ms:=by
    refine Ins.owns (L:=exL (prs σ (e1.set i none)++((.ref p1,m)::(zc9 as vs++P)))) (λq z => ?_) ins
    rcases zjo (zjp (yad (l₁:=prs σ (e1.set i none))) z) with z | z | z
    ·exact ⟨F1,z▸w1⟩
    ·rw [show zoW (V.ref p1,m).2=[] from zjt (zma tm)] at z
     exact nomatch z
    ·exact oth q z
   refine hs.run G1 H1 p1 m F1 vs ms Q ex1 w1 ow (hs.mono _ _ _ _ (λd m' q v' H' rv mo=>q v' H' ?_) q)
   have z:=up _ _ mo _ _ rv
   have z':Ok y.X.K H' σ (e1.set i none) ((.ref p1,m')::(v',.fz d)::(zc9 as vs++P)):=⟨om.1,z.perm (by
    refine (List.Perm.swap _ _ _).trans ?_
    refine List.Perm.trans ?_ yad.symm
    refine List.Perm.cons _ ?_
    exact yad.symm)⟩
   have z2:=z'.give ev
   rw [ybh] at z2
   exact Ok.pops (P:=zc9 as vs) (z2.perm (yad (l₁:=zc9 as vs)).symm)
  ·exact q.elim
 ·exact q.elim
end
mutual
def D.py:D->Option PyData
 | .non=>some .none
 | .bl b=>some (.bool b)
 | .int i=>some (.int i)
 | .str s=>some (.str s)
 | .tup ds=>(D.pys ds).map .tuple
 | .lst ds=>(D.pys ds).map .list
 | _=>none
def D.pys:List D->Option (List PyData)
 | []=>some []
 | d::ds=>match d.py,D.pys ds with
   | some p,some ps=>some (p::ps)
   | _,_=>none
end
section
variable {K:PySem.W.Frag} {G H:Hp}
mutual
theorem Rep.dp (ex:Ex G H):∀ {v:V} {d:D} {p:PyData},Rep K G v d->d.py=some p->Dp K H v p
 | _,_,_,.non,e=>by cases e; exact .non
 | _,_,_,.bl b,e=>by cases e; exact .bl b
 | _,_,_,.int i,e=>by cases e; exact .int i
 | _,_,_,.str s,e=>by cases e; exact .str s
 | _,_,_,.tup (ds:=ds) h r,e=>by
   unfold D.py at e
   obtain ⟨ps,e1,rfl⟩:=yaP.mp e
   exact .tup (h.mono ex).sqT (Reps.dp ex r e1)
 | _,_,_,.lst (ds:=ds) h r,e=>by
   unfold D.py at e
   obtain ⟨ps,e1,rfl⟩:=yaP.mp e
   exact .lst (.of (ex.keep h)) (Reps.dp ex r e1)
 | _,_,_,.ty n,e=>by cases e
 | _,_,_,.opq v,e=>by cases e
 | _,_,_,.scr h,e=>by cases e
 | _,_,_,.dK h r,e=>by cases e
 | _,_,_,.dT h r,e=>by cases e
theorem Reps.dp (ex:Ex G H):∀ {vs:List V} {ds:List D} {ps:List PyData},Reps K G vs ds->D.pys ds=some ps->DpAll K H vs ps
 | _,_,_,.nil,e=>by cases e; exact .nil
 | _,_,_,.cons (d:=d) (ds:=ds) h r,e=>by
   unfold D.pys at e
   split at e
   ·rename_i p ps e1 e2
    cases e
    exact .cons (Rep.dp ex h e1) (Reps.dp ex r e2)
   ·cases e
end
theorem Own.dp {v:V} {m:M} {F:List Addr} {p:PyData} (ex:Ex G H) (h:Own K G H v m F) (e:m.d.py=some p):Dp K H v p:=by
 cases h with
 | fz h=>exact h.dp ex e
 | lst h r =>
   have e:(D.lst _).py=some p:=e
   unfold D.py at e
   obtain ⟨ps,e1,rfl⟩:=yaP.mp e
   exact .lst (.of h) (r.dp ex e1)
 | dK h r=>cases e
 | dT h r=>cases e
 | lk _ _=>cases e
 | bx _ _ _ _=>cases e
 | dq _=>cases e
 | dA _ _=>cases e
 | ob _ _=>cases e
end
def opII (C:Int->Int->Prop) (f:Int->Int->D):OP2:=λa b q=>zdd a λi=>zdd b λj=>C i j/\q (.fz (f i j))
def zeV:D->Option V
 | .int i=>some (.int i)
 | .bl b=>some (.bl b)
 | .str s=>some (.str s)
 | .non=>some .non
 | _=>none
theorem znr {K:PySem.W.Frag} {G:Hp} {d:D} {v:V} (e:zeV d=some v):Rep K G v d:=by
 cases d with
 | int i=>cases e; exact .int _
 | bl i=>cases e; exact .bl _
 | str i=>cases e; exact .str _
 | non=>cases e; exact .non
 | _=>cases e
theorem zlj {K:PySem.W.Frag} {C:Int->Int->Prop} {f:Int->Int->D} {g:Int->Int->V} (e:∀ i j,zeV (f i j)=some (g i j)):Snd2 K (rI C g) (opII C f) where
 run:=λG H x y mx my F F' Q ex w w' q=>by
  obtain ⟨i,rfl,q⟩:=za5 ⟨F,w⟩ q
  obtain ⟨j,rfl,c,q⟩:=za5 ⟨F',w'⟩ q
  exact ⟨i,j,rfl,rfl,c,q _ _ (.same (znr (e i j)))⟩
 mono:=λa b q q' h k=>zaT (λi k=>zaT (λj k=>⟨k.1,h _ k.2⟩) k) k
theorem zss {K:PySem.W.Frag} {f:Int->Int->D} {g:Int->Int->V} (e:∀ i j,zeV (f i j)=some (g i j)):Snd2 K (rI0 g) (opII (λ_ _=>True) f) where
 run:=λG H x y mx my F F' Q ex w w' q=>by
  obtain ⟨i,rfl,q⟩:=za5 ⟨F,w⟩ q
  obtain ⟨j,rfl,c,q⟩:=za5 ⟨F',w'⟩ q
  exact ⟨i,j,rfl,rfl,q _ _ (.same (znr (e i j)))⟩
 mono:=λa b q q' h k=>zaT (λi k=>zaT (λj k=>⟨k.1,h _ k.2⟩) k) k
def opOr (a b:OP2):OP2:=λx y q=>a x y q\/b x y q
theorem Snd2.or {K:PySem.W.Frag} {r r':R2} {a b:OP2} (h:Snd2 K r a) (h':Snd2 K r' b):Snd2 K (λx y H Q=>r x y H Q\/r' x y H Q) (opOr a b) where
 run:=λG H x y mx my F F' Q ex w w' q=>q.imp (h.run _ _ _ _ _ _ _ _ _ ex w w') (h'.run _ _ _ _ _ _ _ _ _ ex w w')
 mono:=λa b q q' i k=>k.imp (h.mono _ _ _ _ i) (h'.mono _ _ _ _ i)
theorem Snd2.imp {K:PySem.W.Frag} {r:R2} {a b:OP2} (h:Snd2 K r a) (i:∀ x y q,b x y q->a x y q) (m:∀ a b' (q q':M->Prop),(∀ m,q m->q' m)->b a b' q->b a b' q'):Snd2 K r b where
 run:=λG H x y mx my F F' Q ex w w' q=>h.run _ _ _ _ _ _ _ _ _ ex w w' (i _ _ _ q)
 mono:=m
def zst:OP2:=λa b q=>match a,b with
 | .fz (.str s),.fz (.str t)=>s.length+t.length<=sizeLine/\q (.fz (.str (s++t)))
 | _,_=>False
def zsu:OP2:=λa b q=>match a,b with
 | .fz (.tup s),.fz (.tup t)=>s.length+t.length<=sizeLine/\q (.fz (.tup (s++t)))
 | _,_=>False
def zlk:OP2:=λa b q=>match a.d,b.d with
 | .lst s,.lst t=>s.length+t.length<=sizeLine/\q (.lst (s++t))
 | _,_=>False
def zcb:OP2:=λa b q=>match a,b with
 | .fz (.int i),.fz (.int j)=>q (.fz (.int (i+j)))
 | .fz (.str s),.fz (.str t)=>s.length+t.length<=sizeLine/\q (.fz (.str (s++t)))
 | .fz (.tup s),.fz (.tup t)=>s.length+t.length<=sizeLine/\q (.fz (.tup (s++t)))
 | a,b=>zlk a b q
section
variable {K:PySem.W.Frag}
theorem zvt:Snd2 K (λx y H Q=>∃ i j,x=.str i/\y=.str j/\i.length+j.length<=sizeLine/\Q (.str (i++j)) H) zst where
 run:=λG H x y mx my F F' Q ex w w' q=>by
  unfold zst at q
  split at q
  ·cases w with
   | fz w =>
     cases w
     cases w' with
     | fz w' =>
       cases w'
       exact ⟨_,_,rfl,rfl,q.1,q.2 _ _ (.same (.str _))⟩
  ·exact q.elim
 mono:=λa b q q' h k=>by
  unfold zst at *
  split at k
  ·exact ⟨k.1,h _ k.2⟩
  ·exact k.elim
theorem zjV {G H:Hp} {x:V} {ds:List D} {F:List Addr} (w:Own K G H x (.fz (.tup ds)) F):∃ a vs,x=.ref a/\TupAt G a vs/\Reps K G vs ds:=by
 cases w with
 | fz w =>
   cases w with
   | tup h r=>exact ⟨_,_,rfl,h,r⟩
def zya (K:PySem.W.Frag):R2:=λx y H Q=>∃ a b xs ys,x=.ref a/\y=.ref b/\SqT K H a xs/\SqT K H b ys/\xs.length+ys.length<=sizeLine /\
 (xs=[]->Q (.ref b) H)/\(xs≠[]->ys=[]->Q (.ref a) H)/\(xs≠[]->ys≠[]->∀ p o,H p=none->TupO (xs++ys) o->Q (.ref p) (upd H p o))
theorem zyb {X:Cx}:OpR X (binaryOp .Add) (zya X.K):=by
 intro pins s σ H x y v u Q I rx ry h
 obtain ⟨a,b,xs,ys,rfl,rfl,ha,hb,hz,q0,q1,q2⟩:=h
 by_cases hx:xs=[]
 ·subst hx
  cases rx
  cases ry
  obtain ⟨its,r1,p1,_⟩:=I.tuple ha
  obtain ⟨its2,r2,p2,_⟩:=I.tuple hb
  cases r1
  exact cat_tup0 p1 p2 ⟨.ref b,H,I,rfl,q0 rfl⟩
 ·cases rx
  cases ry
  obtain ⟨its,r1,p1,_⟩:=I.tuple ha
  obtain ⟨its2,r2,p2,_⟩:=I.tuple hb
  refine HT.cat_tup p1 p2 (λz=>hx (ycK r1 |>.mp z)) (λz=>⟨.ref a,H,I,rfl,q1 hx (ycK r2 |>.mp z)⟩) (λz => ?_) (by rw [← r1.length,← r2.length]; exact hz)
  obtain ⟨o,t,I'⟩:=zhq I (xs:=xs++ys) (by rw [yam]; exact hz) (r1.append r2)
  exact ⟨.ref s.heap.objs.size,_,I',rfl,q2 hx (λw=>z (ycK r2 |>.mpr w)) _ _ (I.hok.fresh (yaj _)) t⟩
theorem zvu:Snd2 K (zya K) zsu where
 run:=λG H x y mx my F F' Q ex w w' q=>by
  unfold zsu at q
  split at q
  ·obtain ⟨a,vs,rfl,h1,r1⟩:=zjV w
   obtain ⟨b,us,rfl,h2,r2⟩:=zjV w'
   refine ⟨a,b,vs,us,rfl,rfl,(h1.mono ex).sqT,(h2.mono ex).sqT,by rw [r1.length,r2.length]; exact q.1,λe => ?_,λe e' => ?_,λ_ _ p o n t=>q.2 _ _ (.tup n t (r1.append r2))⟩
   ·subst e
    cases r1
    exact q.2 _ _ (.same (.tup h2 r2))
   ·subst e'
    cases r2
    exact q.2 _ _ (.same (by rw [yaQ]; exact .tup h1 r1))
  ·exact q.elim
 mono:=λa b q q' h k=>by
  unfold zsu at *
  split at k
  ·exact ⟨k.1,h _ k.2⟩
  ·exact k.elim
theorem zbA {G H:Hp} {x:V} {m:M} {ds:List D} {F:List Addr} (ex:Ex G H) (w:Own K G H x m F) (e:m.d=.lst ds):∃ a vs,x=.ref a/\H a=some (.lst vs)/\Reps K G vs ds:=by
 cases w with
 | fz w =>
   have e:_=D.lst ds:=e
   subst e
   cases w with
   | lst h r=>exact ⟨_,_,rfl,ex.keep h,r⟩
 | lst h r =>
   cases e
   exact ⟨_,_,rfl,h,r⟩
 | dK h r=>cases e
 | dT h r=>cases e
 | lk _ _=>cases e
 | bx _ _ _ _=>cases e
 | dq _=>cases e
 | dA _ _=>cases e
 | ob _ _=>cases e
theorem zvv:Snd2 K rCat zlk where
 run:=λG H x y mx my F F' Q ex w w' q=>by
  unfold zlk at q
  split at q
  ·rename_i s t e1 e2
   obtain ⟨a,vs,rfl,h1,r1⟩:=zbA ex w e1
   obtain ⟨b,us,rfl,h2,r2⟩:=zbA ex w' e2
   exact ⟨a,b,vs,us,rfl,rfl,h1,h2,by rw [r1.length,r2.length]; exact q.1,λp n=>q.2 _ _ (.lst n (r1.append r2))⟩
  ·exact q.elim
 mono:=λa b q q' h k=>by
  unfold zlk at *
  split at k
  ·exact ⟨k.1,h _ k.2⟩
  ·exact k.elim
abbrev zsv (K:PySem.W.Frag):R2:=λx y H Q=>(λx y H Q=>rI0 (λi j=>V.int (i+j)) x y H Q\/(∃ i j,x=.str i/\y=.str j/\i.length+j.length<=sizeLine/\Q (.str (i++j)) H)) x y H Q\/(λx y H Q=>zya K x y H Q\/rCat x y H Q) x y H Q
theorem zaE {X:Cx}:OpR X (binaryOp .Add) (zsv X.K):=OpR.or (OpR.or op_add op_add_str) (OpR.or zyb op_cat)
theorem zvw (a b:M) (q q':M->Prop) (h:∀ m,q m->q' m) (k:zcb a b q):zcb a b q':=by
 unfold zcb zlk at *
 split at k
 ·exact h _ k
 ·exact ⟨k.1,h _ k.2⟩
 ·exact ⟨k.1,h _ k.2⟩
 ·split at k
  ·exact ⟨k.1,h _ k.2⟩
  ·exact k.elim
theorem zaZ:Snd2 K (zsv K) zcb:=Snd2.imp (((zss (f:=λi j=>.int (i+j)) λ_ _=>rfl).or zvt).or (zvu.or zvv)) (λx y q k=>by
 unfold zcb at k
 split at k
 ·exact .inl (.inl ⟨trivial,k⟩)
 ·exact .inl (.inr k)
 ·exact .inr (.inl k)
 ·exact .inr (.inr k)) zvw
def zk5:OP2:=opII (λ_ _=>True) λi j=>.int (i-j)
theorem zfV:Snd2 K (rI0 λi j=>.int (i-j)) zk5:=zss λ_ _=>rfl
def zyc:OP2:=opII CDiv λi j=>.int (i / j)
theorem zyd:Snd2 K (rI CDiv λi j=>.int (i / j)) zyc:=zlj λ_ _=>rfl
def zns:OP2:=opII (λ_ j=>0<j) λi j=>.int (i % j)
theorem zic:Snd2 K (rI (λ_ j=>0<j) λi j=>.int (i % j)) zns:=zlj λ_ _=>rfl
def zvx:OP2:=opII CPow λi j=>.int (i ^ j.toNat)
theorem zsw:Snd2 K (rI CPow λi j=>.int (i ^ j.toNat)) zvx:=zlj λ_ _=>rfl
def repD (ds:List D) (k:Int):List D:=(List.replicate k.toNat ds).flatten
theorem zmb {G:Hp} {vs:List V} {ds:List D} (r:Reps K G vs ds):∀ n:Nat,Reps K G (List.replicate n vs).flatten (List.replicate n ds).flatten
 | 0=>.nil
 | n+1=>by
   rw [ybD,ybD,ybL,ybL]
   exact r.append (zmb r n)
def zye (K:PySem.W.Frag):R2:=λx y H Q=>∃ l k xs,x=.ref l/\y=.int k/\SqT K H l xs/\1<=k/\k<=1000/\xs.length<=1000/\(xs=[]\/k=1->Q (.ref l) H)/\(xs≠[]->k≠1->∀ p o,H p=none->TupO (List.replicate k.toNat xs).flatten o->Q (.ref p) (upd H p o))
theorem zrg (l:Addr) (n:Nat) (dd:Option Addr) (sl:Array (Option Value)) (x:Int) (u:Tok) (c0:(decide (x < -(2 ^ 63))||decide (x>=2 ^ 63))=false) :
 Meets (Builtin.«tuple.__mul__» ⟨[.ref l,.int x u],[]⟩) (λ_ R s=>s.heap.get? l=some { cls:=.type "tuple",dict:=dd,data:=.seq #[] n,slots:=sl }/\R (.ok (.ret (Value.ref l))) s) :=
 .of_wp λprog w A R s h=>by
  obtain ⟨hp,g,d,tk,os⟩:=s
  obtain ⟨hl,h⟩:=h
  have f1:=AutoSeq1.idx_int
  wp_walk using wpAny_loadPart' hl
  repeat (first
   | (refine wpAny_ite_false (yaD (by rw [c0]; exact yax)) ?_; wp_walk using wpAny_loadPart' hl))
  exact ⟨_,rfl,h⟩
theorem zrh (l:Addr) (items:Array Value) (n:Nat) (dd:Option Addr) (sl:Array (Option Value)) (x:Int) (u:Tok) (c0:(decide (x < -(2 ^ 63))||decide (x>=2 ^ 63))=false) (c1:(items.isEmpty||x==1)=true) :
 Meets (Builtin.«tuple.__mul__» ⟨[.ref l,.int x u],[]⟩) (λ_ R s=>s.heap.get? l=some { cls:=.type "tuple",dict:=dd,data:=.seq items n,slots:=sl }/\R (.ok (.ret (Value.ref l))) s) :=
 .of_wp λprog w A R s h=>by
  obtain ⟨hp,g,d,tk,os⟩:=s
  obtain ⟨hl,h⟩:=h
  have f1:=AutoSeq1.idx_int
  wp_walk using wpAny_loadPart' hl
  repeat (first
   | (refine wpAny_ite_false (yaD (by rw [c0]; exact yax)) ?_; wp_walk using wpAny_loadPart' hl)
   | (refine wpAny_ite_true (yaf c1) ?_; wp_walk using wpAny_loadPart' hl))
  exact ⟨_,rfl,h⟩
theorem zsx (n:Nat) {α:Type} (l:List α):((List.replicate n l).flatten).length=n*l.length:=by
 induction n with
 | zero=>simp
 | succ n ih=>rw [ybD,ybL,yam,ih,Nat.succ_mul,Nat.add_comm]
theorem zyf {X:Cx}:OpR X (binaryOp .Mult) (zye X.K):=by
 intro pins s σ H x y v u Q I rx ry ⟨l,k,xs,ex,ey,hT,h1,h2,hz,q0,q⟩
 subst ex ey
 cases rx
 obtain ⟨t,rfl⟩:=ry
 obtain ⟨its,r,⟨⟨cls,dd,data,sl⟩,ho,hc,n,hd⟩,hs⟩:=I.tuple hT
 simp only at hc hd
 subst hc hd
 have r1:(decide (k < -(2 ^ 63))||decide (k>=2 ^ 63))=false:=by simp; omega
 by_cases hne:xs=[]
 ·subst hne
  cases r
  refine wpAny_binaryOp_repeat_ref (T := "tuple") (U := "int") (by decide) ⟨_,ho,rfl⟩ (λs'=>typeIs_int s' k t) noFill_tuple_mul F.fills_int_mul F.slot_int_rmul repeat_tuple F.slot_int_index.lookup ?_
  refine call_meets F.slot_int_rmul (typeIs_int s k t) F.entry_int_rmul (F.args_int_rmul_2 _ _) (int_rmul_tuple k t l [].toArray n dd sl) ⟨ho,rfl,⟨_,ho,rfl⟩,?_⟩
  exact call_meets F.slot_tuple_mul ⟨_,ho,rfl⟩ F.entry_tuple_mul (F.args_tuple_mul_2 _ _) (zrg l n dd sl k t r1) ⟨ho,.ref l,H,I,rfl,q0 (.inl rfl)⟩
 by_cases h1k:k=1
 ·subst h1k
  refine wpAny_binaryOp_repeat_ref (T := "tuple") (U := "int") (by decide) ⟨_,ho,rfl⟩ (λs'=>typeIs_int s' _ t) noFill_tuple_mul F.fills_int_mul F.slot_int_rmul repeat_tuple F.slot_int_index.lookup ?_
  refine call_meets F.slot_int_rmul (typeIs_int s _ t) F.entry_int_rmul (F.args_int_rmul_2 _ _) (int_rmul_tuple _ t l its.toArray n dd sl) ⟨ho,rfl,⟨_,ho,rfl⟩,?_⟩
  exact call_meets F.slot_tuple_mul ⟨_,ho,rfl⟩ F.entry_tuple_mul (F.args_tuple_mul_2 _ _) (zrh l its.toArray n dd sl _ t r1 (by rw [ybm]; exact .inr rfl)) ⟨ho,.ref l,H,I,rfl,q0 (.inr rfl)⟩
 have hl:=r.length
 have hn:its≠[]:=λe=>hne (List.eq_nil_of_length_eq_zero (by rw [hl,e]; rfl))
 have small:k.toNat*xs.length<=1000000:=ya7 (ybq (show k.toNat<=1000 by omega) hz) (by decide)
 have small2:((its.toArray.size:Nat):Int)*k<=1000000:=by
  rw [yaW,← hl]
  refine Int.le_trans (Int.mul_le_mul_of_nonneg_right (show ((xs.length:Nat):Int)<=1000 by omega) (by omega)) ?_
  omega
 have isz:its.toArray.isEmpty=false:=by
  cases its with
  | nil=>exact absurd rfl hn
  | cons a b=>rfl
 have room:(List.foldl (λx1 x2=>x1++x2) #[] (List.replicate k.toNat its.toArray)).size<=sizeLine:=by
  rw [size_rep,yaW,zsx,← hl,sizeLine_eq]
  omega
 have few:Builtin.Tuple.tupleTooMany (((its.toArray.size:Nat):Int)*k)=false:=by
  unfold Builtin.Tuple.tupleTooMany
  exact yaD (by rw [sizeLine_eq]; omega)
 have r2:(its.toArray.isEmpty||k==1)=false:=by simp [isz]; omega
 have r3:(decide (k<=0)||its.toArray.isEmpty)=false:=by simp [isz]; omega
 refine wpAny_binaryOp_repeat_ref (T := "tuple") (U := "int") (by decide) ⟨_,ho,rfl⟩ (λs'=>typeIs_int s' k t) noFill_tuple_mul F.fills_int_mul F.slot_int_rmul repeat_tuple F.slot_int_index.lookup ?_
 refine call_meets F.slot_int_rmul (typeIs_int s k t) F.entry_int_rmul (F.args_int_rmul_2 _ _) (int_rmul_tuple k t l its.toArray n dd sl) ⟨ho,rfl,⟨_,ho,rfl⟩,?_⟩
 refine call_meets F.slot_tuple_mul ⟨_,ho,rfl⟩ F.entry_tuple_mul (F.args_tuple_mul_2 _ _) (tuple_mulW l its.toArray n dd sl k t r1 r2 r3 (by omega) few room) ⟨ho,?_⟩
 rw [size_rep]
 obtain ⟨o,t',I'⟩:=zhq I (xs:=(List.replicate k.toNat xs).flatten) (by rw [zsx,sizeLine_eq]; omega) (r.rep k.toNat)
 exact ⟨.ref s.heap.objs.size,_,I',rfl,q hne h1k _ _ (I.hok.fresh (yaj _)) t'⟩
def zsy:OP2:=λa b q=>match a,b with
 | .fz (.tup ds),.fz (.int k)=>1<=k/\k<=1000/\ds.length<=1000/\q (.fz (.tup (repD ds k)))
 | _,_=>False
def zll:OP2:=λa b q=>match a.d,b.d with
 | .lst ds,.int k=>-(2 ^ 63)<=k/\k<2 ^ 63/\ds.length*k.toNat<=sizeLine/\q (.lst (repD ds k))
 | _,_=>False
theorem zvy:Snd2 K (zye K) zsy where
 run:=λG H x y mx my F F' Q ex w w' q=>by
  unfold zsy at q
  split at q
  ·obtain ⟨a,vs,rfl,h1,r1⟩:=zjV w
   cases w' with
   | fz w' =>
     cases w'
     refine ⟨a,_,vs,rfl,rfl,(h1.mono ex).sqT,q.1,q.2.1,by rw [r1.length]; exact q.2.2.1,λe => ?_,λ_ _ p o n t=>q.2.2.2 _ _ (.tup n t (zmb r1 _))⟩
     have h1:=h1
     rcases e with e | e
     ·subst e
      cases r1
      refine q.2.2.2 _ _ (.same ?_)
      have:∀ n:Nat,(List.replicate n ([]:List D)).flatten=[]:=λn=>by
       induction n with
       | zero=>rfl
       | succ n ih=>rw [ybD,ybL,ih]; rfl
      unfold repD
      rw [this]
      exact .tup h1 .nil
     ·subst e
      refine q.2.2.2 _ _ (.same ?_)
      have:∀ ds:List D,repD ds 1=ds:=λds=>by
       unfold repD
       show (List.replicate 1 ds).flatten=ds
       rw [List.replicate_one,List.flatten_singleton]
      rw [this]
      exact .tup h1 r1
  ·exact q.elim
 mono:=λa b q q' h k=>by
  unfold zsy at *
  split at k
  ·exact ⟨k.1,k.2.1,k.2.2.1,h _ k.2.2.2⟩
  ·exact k.elim
theorem zvz:Snd2 K rRep zll where
 run:=λG H x y mx my F F' Q ex w w' q=>by
  unfold zll at q
  split at q
  ·rename_i ds k e1 e2
   obtain ⟨a,vs,rfl,h1,r1⟩:=zbA ex w e1
   have:y=.int k:=by
    cases w' with
    | fz w' =>
      have e2:_=D.int k:=e2
      subst e2
      cases w'
      rfl
    | lst _ _=>cases e2
    | dK _ _=>cases e2
    | dT _ _=>cases e2
    | lk _ _=>cases e2
    | bx _ _ _ _=>cases e2
    | dq _=>cases e2
    | dA _ _=>cases e2
    | ob _ _=>cases e2
   subst this
   exact ⟨a,k,vs,rfl,rfl,h1,q.1,q.2.1,by rw [r1.length]; exact q.2.2.1,λp n=>q.2.2.2 _ _ (.lst n (zmb r1 _))⟩
  ·exact q.elim
 mono:=λa b q q' h k=>by
  unfold zll at *
  split at k
  ·exact ⟨k.1,k.2.1,k.2.2.1,h _ k.2.2.2⟩
  ·exact k.elim
def ze8:OP2:=λa b q=>match a,b with
 | .fz (.int i),.fz (.int j)=>CMul i j/\q (.fz (.int (i*j)))
 | .fz (.tup ds),.fz (.int k)=>1<=k/\k<=1000/\ds.length<=1000/\q (.fz (.tup (repD ds k)))
 | a,b=>zll a b q
theorem zvA (a b:M) (q q':M->Prop) (h:∀ m,q m->q' m) (k:ze8 a b q):ze8 a b q':=by
 unfold ze8 zll at *
 split at k
 ·exact ⟨k.1,h _ k.2⟩
 ·exact ⟨k.1,k.2.1,k.2.2.1,h _ k.2.2.2⟩
 ·split at k
  ·exact ⟨k.1,k.2.1,k.2.2.1,h _ k.2.2.2⟩
  ·exact k.elim
abbrev zsz (K:PySem.W.Frag):R2:=λx y H Q=>rI CMul (λi j=>V.int (i*j)) x y H Q\/(λx y H Q=>zye K x y H Q\/rRep x y H Q) x y H Q
theorem zbS {X:Cx}:OpR X (binaryOp .Mult) (zsz X.K):=OpR.or op_mul (OpR.or zyf op_rep)
theorem zd6:Snd2 K (zsz K) ze8:=Snd2.imp ((zlj (f:=λi j=>.int (i*j)) λ_ _=>rfl).or (zvy.or zvz)) (λx y q k=>by
 unfold ze8 at k
 split at k
 ·exact .inl k
 ·exact .inr (.inl k)
 ·exact .inr (.inr k)) zvA
def zoZ:OP1:=λa q=>zdd a λi=>q (.fz (.int (-i)))
theorem zjW:Snd1 K (rU λi=>.int (-i)) zoZ where
 run:=λG H x mx F Q ex w q=>by
  obtain ⟨i,rfl,q⟩:=za5 ⟨F,w⟩ q
  exact ⟨i,rfl,q _ _ (.same (.int _))⟩
 mono:=λa q q' h k=>zaT (λi k=>h _ k) k
end
def eqD (x y:D):Bool:=match x.py,y.py with
 | some p,some q=>PyData.eqv p q
 | _,_=>false
def canD (x:D):Bool:=match x.py with
 | some p=>SeqAt.shaped p
 | none=>false
def eqOk:D->D->Bool
 | .int _,.int _=>true
 | .str _,.str _=>true
 | .bl _,.bl _=>true
 | .non,.int _=>true
 | .non,.str _=>true
 | .non,.bl _=>true
 | .int _,.non=>true
 | .str _,.non=>true
 | .bl _,.non=>true
 | .int _,.str _=>true
 | .str _,.int _=>true
 | .bl _,.str _=>true
 | .str _,.bl _=>true
 | .non,.non=>true
 | x,y=>canD x&&canD y
def opEq (neg:Bool):OP2:=λa b q=>eqOk a.d b.d=true/\q (.fz (.bl (if neg then !eqD a.d b.d else eqD a.d b.d)))
abbrev zw4 (K:PySem.W.Frag):R2:=λx y H Q=>rEq x y H Q\/rEqD K x y H Q
abbrev zw5 (K:PySem.W.Frag):R2:=λx y H Q=>rNe x y H Q\/rNeD K x y H Q
section
variable {X:Cx} {K:PySem.W.Frag}
theorem zbi (hu:X.A.units+64<cLine):OpR X (compareOp .Eq) (zw4 X.K):=OpR.or op_eq (op_eqD hu)
theorem zbu (hu:X.A.units+64<cLine):OpR X (compareOp .NotEq) (zw5 X.K):=OpR.or op_ne (op_neD hu)
theorem zsA {x:D} (h:canD x=true):∃ p,x.py=some p/\SeqAt.shaped p=true:=by
 unfold canD at h
 split at h
 ·rename_i p e
  exact ⟨p,e,h⟩
 ·cases h
theorem zpZ {G H:Hp} {x y:V} {a b:M} {F F':List Addr} (ex:Ex G H) (w:Own K G H x a F) (w':Own K G H y b F') (h:eqOk a.d b.d=true) :
 (scal x y=true/\decide (x=y)=eqD a.d b.d)\/∃ d e,Dp K H x d/\Dp K H y e/\SeqAt.shaped d=true/\SeqAt.shaped e=true/\PyData.eqv d e=eqD a.d b.d:=by
 have data:canD a.d=true->canD b.d=true->∃ d e,Dp K H x d/\Dp K H y e/\SeqAt.shaped d=true/\SeqAt.shaped e=true/\PyData.eqv d e=eqD a.d b.d:=λh1 h2=>by
  obtain ⟨p,e1,s1⟩:=zsA h1
  obtain ⟨q,e2,s2⟩:=zsA h2
  exact ⟨p,q,w.dp ex e1,w'.dp ex e2,s1,s2,by unfold eqD; rw [e1,e2]⟩
 have fz:∀ {v:V} {m:M} {F:List Addr} {u:V},Own K G H v m F->zeV m.d=some u->v=u:=λ{v m F u} w e=>by
  cases w with
  | fz w =>
    cases w with
    | non=>cases e; rfl
    | bl _=>cases e; rfl
    | int _=>cases e; rfl
    | str _=>cases e; rfl
    | _=>cases e
  | lst _ _=>cases e
  | dK _ _=>cases e
  | dT _ _=>cases e
  | lk _ _=>cases e
  | bx _ _ _ _=>cases e
  | dq _=>cases e
  | dA _ _=>cases e
  | ob _ _=>cases e
 unfold eqOk at h
 split at h
 case h_15=>exact .inr (data (yaX.mp h).1 (yaX.mp h).2)
 all_goals
  rename_i e1 e2
  have h1:=fz (u:=_) w (by rw [e1]; rfl)
  have h2:=fz (u:=_) w' (by rw [e2]; rfl)
  subst h1 h2
  rw [e1,e2]
  refine .inl ⟨rfl,?_⟩
  first
   | rfl
   | (simp only [eqD,D.py,PyData.eqv]; first | rfl | (rw [ybT]; simp))
theorem zsB (neg:Bool) (a b:M) (q q':M->Prop) (h:∀ m,q m->q' m) (k:opEq neg a b q):opEq neg a b q':=⟨k.1,h _ k.2⟩
theorem zdx:Snd2 K (zw4 K) (opEq false) where
 run:=λG H x y mx my F F' Q ex w w' q=>by
  rcases zpZ ex w w' q.1 with ⟨h1,h2⟩ | ⟨d,e,h1,h2,h3,h4,h5⟩
  ·refine .inl ⟨h1,?_⟩
   rw [h2]
   exact q.2 _ _ (.same (.bl _))
  ·refine .inr ⟨d,e,h1,h2,h3,h4,?_⟩
   rw [h5]
   exact q.2 _ _ (.same (.bl _))
 mono:=zsB false
theorem zec:Snd2 K (zw5 K) (opEq true) where
 run:=λG H x y mx my F F' Q ex w w' q=>by
  rcases zpZ ex w w' q.1 with ⟨h1,h2⟩ | ⟨d,e,h1,h2,h3,h4,h5⟩
  ·refine .inl ⟨h1,?_⟩
   rw [h2]
   exact q.2 _ _ (.same (.bl _))
  ·refine .inr ⟨d,e,h1,h2,h3,h4,?_⟩
   rw [h5]
   exact q.2 _ _ (.same (.bl _))
 mono:=zsB true
end
def ltD (x y:D):Bool:=match x.py,y.py with
 | some p,some q=>PySem.W.dataLt p q
 | _,_=>false
def zyg (x y:D):Bool:=match x.py,y.py with
 | some p,some q=>PySem.W.alike p q&&decide (p.depth<=60)&&(match p with
   | .none=>false
   | _=>true)
 | _,_=>false
inductive Od where
 | lt | le | gt | ge
def Od.op:Od->CmpOp
 | .lt=>.Lt
 | .le=>.LtE
 | .gt=>.Gt
 | .ge=>.GtE
def Od.ans (o:Od) (lt gt:Bool):Bool:=match o with
 | .lt=>lt
 | .le => !gt
 | .gt=>gt
 | .ge => !lt
def Od.int (o:Od) (i j:Int):Bool:=match o with
 | .lt=>decide (i<j)
 | .le=>decide (i<=j)
 | .gt=>decide (j<i)
 | .ge=>decide (j<=i)
def zfW (o:Od):OP2:=λa b q=>match a.d,b.d with
 | .int i,.int j=>q (.fz (.bl (o.int i j)))
 | .str s,.str t=>q (.fz (.bl (o.ans (decide (s.cps.toList<t.cps.toList)) (decide (t.cps.toList<s.cps.toList)))))
 | x,y=>zyg x y=true/\q (.fz (.bl (o.ans (ltD x y) (ltD y x))))
def rOrdI (o:Od):R2:=rI0 λi j=>.bl (o.int i j)
def rOrdS (o:Od):R2:=λx y H Q=>∃ i j,x=.str i/\y=.str j/\Q (.bl (o.ans (decide (i.cps.toList<j.cps.toList)) (decide (j.cps.toList<i.cps.toList)))) H
def rOrdD (K:PySem.W.Frag) (o:Od):R2:=λx y H Q=>∃ d e,Dp K H x d/\Dp K H y e/\PySem.W.alike d e=true/\d≠.none/\d.depth<=60/\Q (.bl (o.ans (PySem.W.dataLt d e) (PySem.W.dataLt e d))) H
section
variable {X:Cx} {K:PySem.W.Frag}
theorem zyh (o:Od):OpR X (compareOp o.op) (rOrdI o):=by
 cases o
 ·exact op_lt
 ·exact op_le
 ·exact op_gt
 ·exact op_ge
theorem zyi (o:Od):OpR X (compareOp o.op) (rOrdS o):=by
 cases o
 ·exact op_lt_str
 ·exact op_le_str
 ·exact op_gt_str
 ·exact op_ge_str
theorem zyj (hu:X.A.units+64<cLine) (o:Od):OpR X (compareOp o.op) (rOrdD X.K o):=by
 intro pins s σ H x y v u Q I rx ry h
 obtain ⟨d,e,hd,he,al,nn,dp,q⟩:=h
 obtain ⟨as,r1⟩:=Dp.reads I d x v hd rx
 obtain ⟨bs,r2⟩:=Dp.reads I e y u he ry
 have room:X.A.units+min d.depth e.depth<cLine:=by
  have:=Nat.min_le_left d.depth e.depth
  omega
 cases o
 ·exact PySem.W.lt_data r1 r2 al nn room ⟨.bl _,H,I,rfl,q⟩
 ·exact PySem.W.le_data r1 r2 al nn room ⟨.bl _,H,I,rfl,q⟩
 ·exact PySem.W.gt_data r1 r2 al nn room ⟨.bl _,H,I,rfl,q⟩
 ·exact PySem.W.ge_data r1 r2 al nn room ⟨.bl _,H,I,rfl,q⟩
abbrev zsC (K:PySem.W.Frag) (o:Od):R2:=λx y H Q=>rOrdI o x y H Q\/(λx y H Q=>rOrdS o x y H Q\/rOrdD K o x y H Q) x y H Q
theorem zbT (hu:X.A.units+64<cLine) (o:Od):OpR X (compareOp o.op) (zsC X.K o):=OpR.or (zyh o) (OpR.or (zyi o) (zyj hu o))
theorem za6 {G H:Hp} {v:V} {m:M} {F:List Addr} {u:V} (w:Own K G H v m F) (e:zeV m.d=some u):v=u:=by
 cases w with
 | fz w =>
   cases w with
   | non=>cases e; rfl
   | bl _=>cases e; rfl
   | int _=>cases e; rfl
   | str _=>cases e; rfl
   | _=>cases e
 | lst _ _=>cases e
 | dK _ _=>cases e
 | dT _ _=>cases e
 | lk _ _=>cases e
 | bx _ _ _ _=>cases e
 | dq _=>cases e
 | dA _ _=>cases e
 | ob _ _=>cases e
theorem zd7 (o:Od):Snd2 K (zsC K o) (zfW o) where
 run:=λG H x y mx my F F' Q ex w w' q=>by
  unfold zfW at q
  split at q
  ·rename_i i j e1 e2
   have h1:=za6 (u:=.int i) w (by rw [e1]; rfl)
   have h2:=za6 (u:=.int j) w' (by rw [e2]; rfl)
   subst h1 h2
   exact .inl ⟨i,j,rfl,rfl,q _ _ (.same (.bl _))⟩
  ·rename_i i j e1 e2
   have h1:=za6 (u:=.str i) w (by rw [e1]; rfl)
   have h2:=za6 (u:=.str j) w' (by rw [e2]; rfl)
   subst h1 h2
   exact .inr (.inl ⟨i,j,rfl,rfl,q _ _ (.same (.bl _))⟩)
  ·obtain ⟨h,q⟩:=q
   unfold zyg at h
   split at h
   ·rename_i p r e1 e2
    obtain ⟨h,h3⟩:=yaX.mp h
    obtain ⟨h1,h2⟩:=yaX.mp h
    refine .inr (.inr ⟨p,r,w.dp ex e1,w'.dp ex e2,h1,(λz=>by rw [z] at h3; cases h3),yao h2,?_⟩)
    have t1:ltD mx.d my.d=PySem.W.dataLt p r:=by unfold ltD; rw [e1,e2]
    have t2:ltD my.d mx.d=PySem.W.dataLt r p:=by unfold ltD; rw [e1,e2]
    rw [t1,t2] at q
    exact q _ _ (.same (.bl _))
   ·cases h
 mono:=λa b q q' h k=>by
  unfold zfW at *
  split at k
  ·exact h _ k
  ·exact h _ k
  ·exact ⟨k.1,h _ k.2⟩
end
def zsD:D->Bool
 | .non=>true
 | _=>false
def opIs (neg:Bool):OP2:=λa b q=>match b with
 | .fz .non=>(match a.d with
   | .opq=>False
   | _=>True)/\q (.fz (.bl (if neg then !zsD a.d else zsD a.d)))
 | _=>False
section
variable {X:Cx} {K:PySem.W.Frag}
theorem zsE {G H:Hp} {x:V} {m:M} {F:List Addr} (w:Own K G H x m F) (h:m.d≠.opq):decide (x=.non)=zsD m.d:=by
 cases w with
 | fz w =>
   cases w with
   | opq _=>exact absurd rfl h
   | _=>rfl
 | lst _ _=>rfl
 | dK _ _=>rfl
 | dT _ _=>rfl
 | lk _ _=>exact absurd rfl h
 | bx _ _ _ _=>exact absurd rfl h
 | dq _=>exact absurd rfl h
 | dA _ _=>rfl
 | ob _ _=>exact absurd rfl h
theorem zsF (neg:Bool) (a b:M) (q q':M->Prop) (h:∀ m,q m->q' m) (k:opIs neg a b q):opIs neg a b q':=by
 unfold opIs at *
 split at k
 ·exact ⟨k.1,h _ k.2⟩
 ·exact k.elim
theorem zyk:Snd2 K (λx y H Q=>y=.non/\Q (.bl (decide (x=.non))) H) (opIs false) where
 run:=λG H x y mx my F F' Q ex w w' q=>by
  unfold opIs at q
  split at q
  ·have h2:=za6 (u:=.non) w' rfl
   refine ⟨h2,?_⟩
   rw [zsE w λz=>by rw [z] at q; exact q.1]
   exact q.2 _ _ (.same (.bl _))
  ·exact q.elim
 mono:=zsF false
theorem zvB:Snd2 K (λx y H Q=>y=.non/\Q (.bl (!decide (x=.non))) H) (opIs true) where
 run:=λG H x y mx my F F' Q ex w w' q=>by
  unfold opIs at q
  split at q
  ·have h2:=za6 (u:=.non) w' rfl
   refine ⟨h2,?_⟩
   rw [zsE w λz=>by rw [z] at q; exact q.1]
   exact q.2 _ _ (.same (.bl _))
  ·exact q.elim
 mono:=zsF true
end
def keyK:D->Option Key
 | .int i=>some (.inl i)
 | .str s=>some (.inr s)
 | _=>none
def zvC:List D->Option (List Key)
 | []=>some []
 | d::ds=>match keyK d,zvC ds with
   | some k,some ks=>some (k::ks)
   | _,_=>none
def keyT:D->Option (List Key)
 | .tup (.int i::ds)=>zvC (.int i::ds)
 | _=>none
section
variable {κ:Type} [DecidableEq κ]
def getK (kvs:List (κ×D)) (k:κ):Option D:=(kvs.find? λkv=>decide (kv.1=k)).map (·.2)
def setK (kvs:List (κ×D)) (k:κ) (v:D):List (κ×D):=if (kvs.any λkv=>decide (kv.1=k))=true then kvs.map (λkv=>if kv.1=k then (kv.1,v) else kv) else kvs++[(k,v)]
end
section
variable {K:PySem.W.Frag} {G H:Hp}
theorem zhy {v:V} {m:M} {F:List Addr} {k:Key} (w:Own K G H v m F) (e:keyK m.d=some k):v=kV k:=by
 cases w with
 | fz w =>
   cases w with
   | int i=>cases e; rfl
   | str i=>cases e; rfl
   | _=>cases e
 | lst _ _=>cases e
 | dK _ _=>cases e
 | dT _ _=>cases e
 | lk _ _=>cases e
 | bx _ _ _ _=>cases e
 | dq _=>cases e
 | dA _ _=>cases e
 | ob _ _=>cases e
theorem zlm:∀ {vs:List V} {ds:List D} {ks:List Key},Reps K G vs ds->zvC ds=some ks->vs=ks.map kV
 | _,_,_,.nil,e=>by cases e; rfl
 | _,_,_,.cons (d:=d) (ds:=ds) h r,e=>by
   unfold zvC at e
   split at e
   ·rename_i k ks e1 e2
    cases e
    have h1:=zhy (H:=G) (Own.fz h) e1
    rw [h1,zlm r e2]
    rfl
   ·cases e
theorem zmc {v:V} {m:M} {F:List Addr} {ks:List Key} (ex:Ex G H) (w:Own K G H v m F) (e:keyT m.d=some ks):∃ b,v=.ref b/\H b=some (.tup (ks.map kV)):=by
 cases w with
 | fz w =>
   cases w with
   | tup h r =>
     rename_i a vs ds
     have e:keyT (.tup ds)=some ks:=e
     unfold keyT at e
     split at e
     ·rename_i i ds' e0
      cases e0
      have ev:=zlm r e
      refine ⟨_,rfl,?_⟩
      rw [← ev]
      refine (h.mono ex).key ?_
      cases r with
      | cons h1 r1 =>
        cases h1
        cases ks with
        | nil=>cases ev
        | cons k ks =>
          have e2:=(ycB ev).2
          show List.all _ zwX=true
          rw [e2,List.all_map,yav]
          intro k _
          cases k<;>rfl
     ·cases e
   | _=>cases e
 | lst _ _=>cases e
 | dK _ _=>cases e
 | dT _ _=>cases e
 | lk _ _=>cases e
 | bx _ _ _ _=>cases e
 | dq _=>cases e
 | dA _ _=>cases e
 | ob _ _=>cases e
theorem zmd {k:Key}:∀ {vs:List (Key×V)} {ds:List (Key×D)},RepK K G vs ds->(∀ d,getK ds k=some d->∃ v,valV vs k=some v/\Rep K G v d)/\(getK ds k=none->valV vs k=none)
 | _,_,.nil=>⟨(λd e=>nomatch e),λ_=>rfl⟩
 | _,_,.cons (k:=k') (v:=v) (d:=d) (vs:=vs) (ds:=ds) h r=>by
   obtain ⟨h1,h2⟩:=zmd r (k:=k)
   by_cases z:k'=k
   ·subst z
    refine ⟨λd' e => ?_,λe => ?_⟩
    ·simp only [getK,ybu,decide_true,ycL,ycx] at e
     subst e
     exact ⟨v,valV_pos rfl,h⟩
    ·simp [getK,ybu] at e
   ·have eg:getK ((k',d)::ds) k=getK ds k:=by simp only [getK,ybu,z,decide_false]
    have ev:valV ((k',v)::vs) k=valV vs k:=valV_neg z
    rw [eg,ev]
    exact ⟨h1,h2⟩
theorem zme {k:List Key}:∀ {vs:List (List Key×V)} {ds:List (List Key×D)},RepT K G vs ds->(∀ d,getK ds k=some d->∃ v,valV vs k=some v/\Rep K G v d)/\(getK ds k=none->valV vs k=none)
 | _,_,.nil=>⟨(λd e=>nomatch e),λ_=>rfl⟩
 | _,_,.cons (k:=k') (v:=v) (d:=d) (vs:=vs) (ds:=ds) h r=>by
   obtain ⟨h1,h2⟩:=zme r (k:=k)
   by_cases z:k'=k
   ·subst z
    refine ⟨λd' e => ?_,λe => ?_⟩
    ·simp only [getK,ybu,decide_true,ycL,ycx] at e
     subst e
     exact ⟨v,valV_pos rfl,h⟩
    ·simp [getK,ybu] at e
   ·have eg:getK ((k',d)::ds) k=getK ds k:=by simp only [getK,ybu,z,decide_false]
    have ev:valV ((k',v)::vs) k=valV vs k:=valV_neg z
    rw [eg,ev]
    exact ⟨h1,h2⟩
theorem zo0 {k:Key} {vs:List (Key×V)} {ds:List (Key×D)} (r:RepK K G vs ds):(valV vs k).isSome=(getK ds k).isSome:=by
 obtain ⟨h1,h2⟩:=zmd r (k:=k)
 cases e:getK ds k with
 | none =>
   rw [h2 e]
   rfl
 | some d =>
   obtain ⟨v,e1,_⟩:=h1 d e
   rw [e1]
   rfl
theorem zo1 {k:List Key} {vs:List (List Key×V)} {ds:List (List Key×D)} (r:RepT K G vs ds):(valV vs k).isSome=(getK ds k).isSome:=by
 obtain ⟨h1,h2⟩:=zme r (k:=k)
 cases e:getK ds k with
 | none =>
   rw [h2 e]
   rfl
 | some d =>
   obtain ⟨v,e1,_⟩:=h1 d e
   rw [e1]
   rfl
theorem zp0 {k:Key}:∀ {vs:List (Key×V)} {ds:List (Key×D)},RepK K G vs ds->(vs.any λkv=>decide (kv.1=k))=ds.any λkv=>decide (kv.1=k)
 | _,_,.nil=>rfl
 | _,_,.cons h r=>by rw [ycC,ycC,zp0 r]
theorem zp1 {k:List Key}:∀ {vs:List (List Key×V)} {ds:List (List Key×D)},RepT K G vs ds->(vs.any λkv=>decide (kv.1=k))=ds.any λkv=>decide (kv.1=k)
 | _,_,.nil=>rfl
 | _,_,.cons h r=>by rw [ycC,ycC,zp1 r]
theorem zmf {k:Key} {v:V} {d:D} (h:Rep K G v d):∀ {vs:List (Key×V)} {ds:List (Key×D)},RepK K G vs ds->RepK K G (vs.map λkv=>if kv.1=k then (kv.1,v) else kv) (ds.map λkv=>if kv.1=k then (kv.1,d) else kv)
 | _,_,.nil=>.nil
 | _,_,.cons (k:=k') h' r=>by
   rw [yaH,yaH]
   by_cases z:k'=k
   ·rw [yaw z,yaw z]
    exact .cons h (zmf h r)
   ·rw [yaz z,yaz z]
    exact .cons h' (zmf h r)
theorem zmg {k:List Key} {v:V} {d:D} (h:Rep K G v d):∀ {vs:List (List Key×V)} {ds:List (List Key×D)},RepT K G vs ds->RepT K G (vs.map λkv=>if kv.1=k then (kv.1,v) else kv) (ds.map λkv=>if kv.1=k then (kv.1,d) else kv)
 | _,_,.nil=>.nil
 | _,_,.cons (k:=k') h' r=>by
   rw [yaH,yaH]
   by_cases z:k'=k
   ·rw [yaw z,yaw z]
    exact .cons h (zmg h r)
   ·rw [yaz z,yaz z]
    exact .cons h' (zmg h r)
theorem znt {k:Key} {v:V} {d:D} (h:Rep K G v d):∀ {vs:List (Key×V)} {ds:List (Key×D)},RepK K G vs ds->RepK K G (vs++[(k,v)]) (ds++[(k,d)])
 | _,_,.nil=>.cons h .nil
 | _,_,.cons h' r=>.cons h' (znt h r)
theorem znu {k:List Key} {v:V} {d:D} (h:Rep K G v d):∀ {vs:List (List Key×V)} {ds:List (List Key×D)},RepT K G vs ds->RepT K G (vs++[(k,v)]) (ds++[(k,d)])
 | _,_,.nil=>.cons h .nil
 | _,_,.cons h' r=>.cons h' (znu h r)
theorem zp2 {k:Key} {v:V} {d:D} (h:Rep K G v d) {vs:List (Key×V)} {ds:List (Key×D)} (r:RepK K G vs ds):RepK K G (putK vs k v) (setK ds k d):=by
 unfold putK setK
 rw [zp0 r]
 split
 ·exact zmf h r
 ·exact znt h r
theorem zvD {k:List Key} {v:V} {d:D} (h:Rep K G v d) {vs:List (List Key×V)} {ds:List (List Key×D)} (r:RepT K G vs ds):RepT K G (putK vs k v) (setK ds k d):=by
 unfold putK setK
 rw [zp1 r]
 split
 ·exact zmg h r
 ·exact znu h r
theorem zp3 {x:V} {m:M} {ds:List (Key×D)} {F:List Addr} (ex:Ex G H) (w:Own K G H x m F) (e:m.d=.dK ds):∃ a vs,x=.ref a/\Rd H a (.dK vs)/\RepK K G vs ds:=by
 cases w with
 | fz w =>
   have e:_=D.dK ds:=e
   subst e
   cases w with
   | dK h r=>exact ⟨_,_,rfl,ex.rd h,r⟩
 | dK h r =>
   cases e
   exact ⟨_,_,rfl,.inl h,r⟩
 | lst h r=>cases e
 | dT h r=>cases e
 | lk _ _=>cases e
 | bx _ _ _ _=>cases e
 | dq _=>cases e
 | dA w r =>
   cases e
   exact ⟨_,_,rfl,.inl w,r⟩
 | ob _ _=>cases e
theorem zsG {x:V} {m:M} {ds:List (List Key×D)} {F:List Addr} (ex:Ex G H) (w:Own K G H x m F) (e:m.d=.dT ds):∃ a vs,x=.ref a/\Rd H a (.dT vs)/\RepT K G vs ds:=by
 cases w with
 | fz w =>
   have e:_=D.dT ds:=e
   subst e
   cases w with
   | dT h r=>exact ⟨_,_,rfl,ex.rd h,r⟩
 | dT h r =>
   cases e
   exact ⟨_,_,rfl,.inl h,r⟩
 | lk _ _=>cases e
 | bx _ _ _ _=>cases e
 | dq _=>cases e
 | dA _ _=>cases e
 | ob _ _=>cases e
 | lst h r=>cases e
 | dK h r=>cases e
theorem zfx {x:V} {m:M} {ds:List D} {F:List Addr} (ex:Ex G H) (w:Own K G H x m F) (e:m.d=.tup ds):∃ a vs,x=.ref a/\TupAt H a vs/\Reps K G vs ds:=by
 cases w with
 | fz w =>
   have e:_=D.tup ds:=e
   subst e
   cases w with
   | tup h r=>exact ⟨_,_,rfl,h.mono ex,r⟩
 | lst h r=>cases e
 | dK h r=>cases e
 | dT h r=>cases e
 | lk _ _=>cases e
 | bx _ _ _ _=>cases e
 | dq _=>cases e
 | dA _ _=>cases e
 | ob _ _=>cases e
theorem zsH {x:V} {m:M} {ns:List Int} {F:List Addr} (ex:Ex G H) (w:Own K G H x m F) (e:m.d=.scr ns):∃ a,x=.ref a/\SqL K H a (ns.map V.int):=by
 cases w with
 | fz w =>
   have e:_=D.scr ns:=e
   subst e
   cases w with
   | scr h=>exact ⟨_,rfl,ex.sqL h⟩
 | lst h r=>cases e
 | dK h r=>cases e
 | dT h r=>cases e
 | lk _ _=>cases e
 | bx _ _ _ _=>cases e
 | dq _=>cases e
 | dA _ _=>cases e
 | ob _ _=>cases e
end
def zeC:List D->Option (List V)
 | []=>some []
 | d::ds=>match zeV d,zeC ds with
   | some v,some vs=>some (v::vs)
   | _,_=>none
def xorB (neg b:Bool):Bool:=if neg then !b else b
def inOk (p:PyData) (ps:List PyData):Bool:=p.canLay0&&PyData.canLayAll0 ps&&decide (p.depth<=60)
def zmh (neg:Bool) (x:D) (ds:List D) (q:M->Prop):Prop:=match zeV x,zeC ds with
 | some v,some vs=>q (.fz (.bl (xorB neg (inV v vs))))
 | _,_=>match x.py,D.pys ds with
   | some p,some ps=>inOk p ps=true/\q (.fz (.bl (xorB neg (ps.any λz=>PyData.eqv z p))))
   | _,_=>False
def opIn (neg:Bool):OP2:=λa b q=>match b.d with
 | .str t=>match a.d with
   | .str s=>(match s.cps.toList with
     | [c]=>q (.fz (.bl (xorB neg (decide (c∈t.cps.toList)))))
     | _=>False)
   | _=>False
 | .dK kvs=>match keyK a.d with
   | some k=>q (.fz (.bl (xorB neg (getK kvs k).isSome)))
   | none=>False
 | .dT kvs=>match keyT a.d with
   | some k=>q (.fz (.bl (xorB neg (getK kvs k).isSome)))
   | none=>False
 | .tup ds=>zmh neg a.d ds q
 | .lst ds=>zmh neg a.d ds q
 | _=>False
def inCmp (neg:Bool):CmpOp:=if neg then .NotIn else .In
abbrev rInSg (neg:Bool):R2:=λx y H Q=>∃ (c:Nat) (z:Str),x=.str ⟨#[c]⟩/\y=.str z/\Q (.bl (xorB neg (decide (c∈z.cps.toList)))) H
abbrev rInDc (neg:Bool):R2:=λx y H Q=>∃ a o,y=.ref a/\DGet H a x o/\Q (.bl (xorB neg o.isSome)) H
abbrev rInFl (K:PySem.W.Frag) (neg:Bool):R2:=λx y H Q=>∃ p xs,y=.ref p/\(SqL K H p xs\/SqT K H p xs)/\flatV x=true/\xs.all flatV=true/\Q (.bl (xorB neg (inV x xs))) H
abbrev rInDt (K:PySem.W.Frag) (neg:Bool):R2:=λx y H Q=>∃ d ds,Dp K H x d/\(Dp K H y (.list ds)\/Dp K H y (.tuple ds))/\inOk d ds=true/\Q (.bl (xorB neg (ds.any λz=>PyData.eqv z d))) H
abbrev zsI (K:PySem.W.Frag) (neg:Bool):R2:=λx y H Q=>(λx y H Q=>rInSg neg x y H Q\/rInDc neg x y H Q) x y H Q\/(λx y H Q=>rInFl K neg x y H Q\/rInDt K neg x y H Q) x y H Q
section
variable {X:Cx} {K:PySem.W.Frag}
theorem zju (hu:X.A.units+64<cLine) (neg:Bool):OpR X (compareOp (inCmp neg)) (zsI X.K neg):=by
 refine OpR.or (OpR.or ?_ ?_) (OpR.or ?_ ?_)
 ·cases neg
  ·exact op_in_sign
  ·exact op_notIn_sign
 ·intro pins s σ H x y v u Q I rx ry ⟨a,o,ey,g,q⟩
  subst ey
  obtain rfl:u=Value.ref a:=ry
  cases neg
  ·exact d_in (by omega) I g rx λs' I'=>⟨.bl _,H,I',rfl,q⟩
  ·exact d_notIn (by omega) I g rx λs' I'=>⟨.bl _,H,I',rfl,q⟩
 ·cases neg
  ·exact op_in_seq
  ·exact op_notIn_seq
 ·intro pins s σ H x y v u Q I rx ry ⟨d,ds,hd,he,ok,q⟩
  obtain ⟨as,r1⟩:=Dp.reads I d x v hd rx
  unfold inOk at ok
  obtain ⟨ok,o3⟩:=yaX.mp ok
  obtain ⟨o1,o2⟩:=yaX.mp ok
  have o3:d.depth<=60:=yao o3
  have room:X.A.units+1+min (PyData.depthAll ds) d.depth<cLine:=by
   have:=Nat.min_le_right (PyData.depthAll ds) d.depth
   omega
  rcases he with he | he
  ·obtain ⟨bs,r2⟩:=Dp.reads I (.list ds) y u he ry
   cases neg
   ·exact SeqAt.in_list_reads r2 r1 o2 o1 room ⟨.bl _,H,I,rfl,q⟩
   ·exact SeqAt.notIn_list_reads r2 r1 o2 o1 room ⟨.bl _,H,I,rfl,q⟩
  ·obtain ⟨bs,r2⟩:=Dp.reads I (.tuple ds) y u he ry
   cases neg
   ·exact SeqAt.in_tuple_reads r2 r1 o2 o1 room ⟨.bl _,H,I,rfl,q⟩
   ·exact SeqAt.notIn_tuple_reads r2 r1 o2 o1 room ⟨.bl _,H,I,rfl,q⟩
theorem zln {d:D} {v:V} (e:zeV d=some v):flatV v=true:=by
 cases d with
 | int i=>cases e; rfl
 | bl i=>cases e; rfl
 | str i=>cases e; rfl
 | non=>cases e; rfl
 | _=>cases e
theorem ziS {G:Hp}:∀ {vs:List V} {ds:List D} {us:List V},Reps K G vs ds->zeC ds=some us->vs=us/\us.all flatV=true
 | _,_,_,.nil,e=>by cases e; exact ⟨rfl,rfl⟩
 | _,_,_,.cons (d:=d) (ds:=ds) h r,e=>by
   unfold zeC at e
   split at e
   ·rename_i u us e1 e2
    cases e
    have h1:=za6 (H:=G) (Own.fz h) e1
    obtain ⟨h2,h3⟩:=ziS r e2
    refine ⟨by rw [h1,h2],?_⟩
    rw [ycD,h3,zln e1]
    rfl
   ·cases e
theorem zp4 {neg:Bool} {x:D} {ds:List D} {q q':M->Prop} (h:∀ m,q m->q' m) (k:zmh neg x ds q):zmh neg x ds q':=by
 unfold zmh at *
 split at k
 ·exact h _ k
 ·split at k
  ·exact ⟨k.1,h _ k.2⟩
  ·exact k.elim
theorem zp5 (neg:Bool):Snd2 K (zsI K neg) (opIn neg) where
 run:=λG H x y mx my F F' Q ex w w' q=>by
  have seq:∀ {p:Addr} {vs:List V} {ds:List D},(SqL K H p vs\/SqT K H p vs)->Reps K G vs ds->zmh neg mx.d ds (λm=>∀ v H',zh9 K G H m v H'->Q v H')->(∀ ps,DpAll K H vs ps->Dp K H (.ref p) (.list ps)\/Dp K H (.ref p) (.tuple ps))->zsI K neg x (.ref p) H Q:=by
   intro p vs ds hs rs q dp
   unfold zmh at q
   split at q
   ·rename_i v us e1 e2
    have h1:=za6 w e1
    obtain ⟨h2,h3⟩:=ziS rs e2
    subst h1 h2
    exact .inr (.inl ⟨p,_,rfl,hs,zln e1,h3,q _ _ (.same (.bl _))⟩)
   ·split at q
    ·rename_i d ps e1 e2
     exact .inr (.inr ⟨d,ps,w.dp ex e1,dp _ (Reps.dp ex rs e2),q.1,q.2 _ _ (.same (.bl _))⟩)
    ·exact q.elim
  unfold opIn at q
  split at q
  ·rename_i t e2
   have h2:=za6 (u:=.str t) w' (by rw [e2]; rfl)
   subst h2
   split at q
   ·rename_i s e1
    have h1:=za6 (u:=.str s) w (by rw [e1]; rfl)
    subst h1
    split at q
    ·rename_i c ec
     refine .inl (.inl ⟨c,t,?_,rfl,q _ _ (.same (.bl _))⟩)
     congr 1
     exact PySem.W.str_of_cps ec
    ·exact q.elim
   ·exact q.elim
  ·rename_i kvs e2
   obtain ⟨a,vs,rfl,h1,r1⟩:=zp3 ex w' e2
   split at q
   ·rename_i k ek
    refine .inl (.inr ⟨a,_,rfl,.inl ⟨vs,k,h1,zhy w ek,rfl⟩,?_⟩)
    rw [zo0 r1]
    exact q _ _ (.same (.bl _))
   ·exact q.elim
  ·rename_i kvs e2
   obtain ⟨a,vs,rfl,h1,r1⟩:=zsG ex w' e2
   split at q
   ·rename_i k ek
    obtain ⟨b,eb,hb⟩:=zmc ex w ek
    refine .inl (.inr ⟨a,_,rfl,.inr ⟨vs,k,b,h1,eb,hb,rfl⟩,?_⟩)
    rw [zo1 r1]
    exact q _ _ (.same (.bl _))
   ·exact q.elim
  ·rename_i ds e2
   obtain ⟨a,vs,rfl,h1,r1⟩:=zfx ex w' e2
   exact seq (.inr h1.sqT) r1 q λps dp=>.inr (.tup h1.sqT dp)
  ·rename_i ds e2
   obtain ⟨a,vs,rfl,h1,r1⟩:=zbA ex w' e2
   exact seq (.inl (.of h1)) r1 q λps dp=>.inl (.lst (.of h1) dp)
  ·exact q.elim
 mono:=λa b q q' h k=>by
  unfold opIn at *
  split at k
  ·split at k
   ·split at k
    ·exact h _ k
    ·exact k.elim
   ·exact k.elim
  ·split at k
   ·exact h _ k
   ·exact k.elim
  ·split at k
   ·exact h _ k
   ·exact k.elim
  ·exact zp4 h k
  ·exact zp4 h k
  ·exact k.elim
end
def opIx:OP2:=λa b q=>match a.d with
 | .tup ds=>zdd b λi=>match atI ds i with
   | some d=>q (.fz d)
   | none=>False
 | .lst ds=>zdd b λi=>match atI ds i with
   | some d=>q (.fz d)
   | none=>False
 | .scr ns=>zdd b λi=>match atI ns i with
   | some n=>q (.fz (.int n))
   | none=>False
 | .str s=>zdd b λi=>match atI s.cps.toList i with
   | some c=>s.length<=sizeLine/\q (.fz (sgn c))
   | none=>False
 | .dK kvs=>match keyK b.d with
   | some k=>(match getK kvs k with
     | some d=>q (.fz d)
     | none=>False)
   | none=>False
 | .dT kvs=>match keyT b.d with
   | some k=>(match getK kvs k with
     | some d=>q (.fz d)
     | none=>False)
   | none=>False
 | _=>False
abbrev rIxDc:R2:=λx y H Q=>∃ a v,x=.ref a/\DGet H a y (some v)/\Q v H
abbrev zw6 (K:PySem.W.Frag):R2:=λx y H Q=>rIx K x y H Q\/rIxDc x y H Q
section
variable {X:Cx} {K:PySem.W.Frag}
theorem zyl (hu:X.A.units+64<cLine):IxR X rIxDc:=by
 intro value slice pins s σ H x y v u Q I rx ry ⟨a,z,ex,g,q⟩ hs
 subst ex
 obtain rfl:v=Value.ref a:=rx
 have tI:=dict_typeIs I g
 unfold subscriptTail
 refine wpAny_bind ?_
 rw [getitemInPython_of_ne tI.not_modules]
 refine wpAny_bind (wpAny_specialOf tI PySem.F.slot_dict_getitem.lookup ?_)
 have fin:wpAny (model X.prog X.w) X.A (subscripted slice false (.ref a) u) (λr s₃=>wpAny (model X.prog X.w) X.A (letTemporaryGo value (.ref a) r >>= λ_=>pure r) (EP X pins σ Q) X.xe s₃) X.xe s:=by
  rw [hs]
  exact wpAny_operating (d_getItem (by omega) I g ry λw' s' I' rw'=>wpAny_bind (wpAny_letTemporaryGo (wpAny_pure ⟨z,H,I',rw',q⟩)))
 first
  | exact wpAny_pure (wpAny_bind fin)
  | exact wpAny_bind (wpAny_pure (wpAny_bind fin))
  | exact wpAny_bind fin
theorem ix_all (hu:X.A.units+64<cLine):IxR X (zw6 X.K):=IxR.or ix_seq (zyl hu)
theorem zym {α β:Type} (f:α->β) (xs:List α) (i:Int):atI (xs.map f) i=(atI xs i).map f:=by
 unfold atI
 rw [yac]
 cases ixN xs.length i with
 | none=>rfl
 | some j=>simp
theorem zp6 {G:Hp} {vs:List V} {ds:List D} {i:Int} {d:D} (r:Reps K G vs ds) (e:atI ds i=some d):∃ v,atI vs i=some v/\Rep K G v d:=by
 unfold atI at *
 rw [r.length]
 cases q:ixN ds.length i with
 | none=>rw [q] at e; cases e
 | some j =>
   rw [q] at e
   exact r.at e
theorem snd_ix:Snd2 K (zw6 K) opIx where
 run:=λG H x y mx my F F' Q ex w w' q=>by
  unfold opIx at q
  split at q
  ·rename_i ds e
   obtain ⟨a,vs,rfl,h1,r1⟩:=zfx ex w e
   obtain ⟨i,rfl,q⟩:=za5 ⟨F',w'⟩ q
   split at q
   ·rename_i d ed
    obtain ⟨v,ev,rv⟩:=zp6 r1 ed
    exact .inl (.inr (.inl ⟨a,vs,i,v,rfl,rfl,h1.sqT,ev,q _ _ (.same rv)⟩))
   ·exact q.elim
  ·rename_i ds e
   obtain ⟨a,vs,rfl,h1,r1⟩:=zbA ex w e
   obtain ⟨i,rfl,q⟩:=za5 ⟨F',w'⟩ q
   split at q
   ·rename_i d ed
    obtain ⟨v,ev,rv⟩:=zp6 r1 ed
    exact .inl (.inl ⟨a,vs,i,v,rfl,rfl,.of h1,ev,q _ _ (.same rv)⟩)
   ·exact q.elim
  ·rename_i ns e
   obtain ⟨a,rfl,h1⟩:=zsH ex w e
   obtain ⟨i,rfl,q⟩:=za5 ⟨F',w'⟩ q
   split at q
   ·rename_i d ed
    exact .inl (.inl ⟨a,_,i,.int d,rfl,rfl,h1,by rw [zym,ed]; rfl,q _ _ (.same (.int _))⟩)
   ·exact q.elim
  ·rename_i s e
   have h1:=za6 (u:=.str s) w (by rw [e]; rfl)
   subst h1
   obtain ⟨i,rfl,q⟩:=za5 ⟨F',w'⟩ q
   split at q
   ·rename_i c ec
    exact .inl (.inr (.inr ⟨s,i,c,rfl,rfl,q.1,ec,q.2 _ _ (.same (.str _))⟩))
   ·exact q.elim
  ·rename_i kvs e
   obtain ⟨a,vs,rfl,h1,r1⟩:=zp3 ex w e
   split at q
   ·rename_i k ek
    split at q
    ·rename_i d ed
     obtain ⟨v,ev,rv⟩:=(zmd r1).1 d ed
     exact .inr ⟨a,v,rfl,.inl ⟨vs,k,h1,zhy w' ek,ev.symm⟩,q _ _ (.same rv)⟩
    ·exact q.elim
   ·exact q.elim
  ·rename_i kvs e
   obtain ⟨a,vs,rfl,h1,r1⟩:=zsG ex w e
   split at q
   ·rename_i k ek
    split at q
    ·rename_i d ed
     obtain ⟨v,ev,rv⟩:=(zme r1).1 d ed
     obtain ⟨b,eb,hb⟩:=zmc ex w' ek
     exact .inr ⟨a,v,rfl,.inr ⟨vs,k,b,h1,eb,hb,ev.symm⟩,q _ _ (.same rv)⟩
    ·exact q.elim
   ·exact q.elim
  ·exact q.elim
 mono:=λa b q q' h k=>by
  unfold opIx at *
  split at k
  ·exact zaT (λi k=>by
    split at k
    ·exact h _ k
    ·exact k.elim) k
  ·exact zaT (λi k=>by
    split at k
    ·exact h _ k
    ·exact k.elim) k
  ·exact zaT (λi k=>by
    split at k
    ·exact h _ k
    ·exact k.elim) k
  ·exact zaT (λi k=>by
    split at k
    ·exact ⟨k.1,h _ k.2⟩
    ·exact k.elim) k
  ·split at k
   ·split at k
    ·exact h _ k
    ·exact k.elim
   ·exact k.elim
  ·split at k
   ·split at k
    ·exact h _ k
    ·exact k.elim
   ·exact k.elim
  ·exact k.elim
end
def cutD {α:Type} (xs:List α) (lo hi:Option Int):List α:=(xs.drop (HT.sIx xs.length 0 lo)).take (HT.sIx xs.length xs.length hi-HT.sIx xs.length 0 lo)
def opSl:OPS:=λa lo hi q=>match a.d with
 | .tup ds=>q (.fz (.tup (cutD ds lo hi)))
 | .lst ds=>q (.lst (cutD ds lo hi))
 | .str s=>s.length<=sizeLine/\q (.fz (.str (cutS s lo hi)))
 | _=>False
def rSlF (K:PySem.W.Frag):V->Option Int->Option Int->Hp->VK->Prop:=λx lo hi H Q=>∃ a xs,x=.ref a/\SqT K H a xs /\
 (HT.sIx xs.length 0 lo=0/\HT.sIx xs.length xs.length hi=xs.length->Q (.ref a) H)/\(¬ (HT.sIx xs.length 0 lo=0/\HT.sIx xs.length xs.length hi=xs.length)->∀ p o,H p=none->TupO (cutV xs lo hi) o->Q (.ref p) (upd H p o))
theorem zyn {X:Cx}:SlR X (rSlF X.K):=by
 intro pins s σ H x v vl vu lo hi sl Q I rx hs pl pu h
 obtain ⟨a,xs,rfl,hx,q1,q2⟩:=h
 by_cases hw:HT.sIx xs.length 0 lo=0/\HT.sIx xs.length xs.length hi=xs.length
 ·exact sl_tupA pins s σ H (.ref a) v vl vu lo hi sl Q I rx hs pl pu ⟨a,xs,rfl,hx,q1,λz=>absurd hw z⟩
 ·cases rx
  obtain ⟨its,r,ht,hz⟩:=I.tuple hx
  have hlen:its.toArray.size=xs.length:=by rw [yaW]; exact r.length.symm
  refine ⟨"tuple",_,PyProof.Rows.slot_tuple_getitem.lookup,ht.typeIs,?_⟩
  refine HT.getItem_tuple_cut ht hs pl pu (by rw [hlen]; exact hw) ?_ (by rw [hlen]; exact hz)
  rw [hlen]
  obtain ⟨o,t,I'⟩:=zhq I (xs:=cutV xs lo hi) (ya7 (cutV_length xs lo hi) hz) ((r.drop (HT.sIx xs.length 0 lo)).take (HT.sIx xs.length xs.length hi-HT.sIx xs.length 0 lo))
  exact ⟨.ref s.heap.objs.size,_,I',rfl,q2 hw _ _ (I.hok.fresh (yaj _)) t⟩
abbrev zw7 (K:PySem.W.Frag):V->Option Int->Option Int->Hp->VK->Prop:=λx lo hi H Q=>rSlL K x lo hi H Q\/(λx lo hi H Q=>rSlF K x lo hi H Q\/rSlS x lo hi H Q) x lo hi H Q
section
variable {X:Cx} {K:PySem.W.Frag}
theorem sl_all:SlR X (zw7 X.K):=SlR.or sl_list (SlR.or zyn sl_str)
theorem zp7 {G:Hp} {vs:List V} {ds:List D} (r:Reps K G vs ds) (lo hi:Option Int):Reps K G (cutV vs lo hi) (cutD ds lo hi):=by
 unfold cutV cutD
 rw [r.length]
 exact (r.drop _).take _
theorem zsJ {α:Type} {xs:List α} {lo hi:Option Int} (h:HT.sIx xs.length 0 lo=0/\HT.sIx xs.length xs.length hi=xs.length):cutD xs lo hi=xs:=by
 unfold cutD
 rw [h.1,h.2]
 simp
theorem snd_sl:SndS K (zw7 K) opSl where
 run:=λG H x mx F lo hi Q ex w q=>by
  unfold opSl at q
  split at q
  ·rename_i ds e
   cases w with
   | fz w =>
     have e:_=D.tup ds:=e
     subst e
     cases w with
     | tup h1 r1 =>
       rename_i a vs
       refine .inr (.inl ⟨a,vs,rfl,(h1.mono ex).sqT,λz=>q _ _ (.same ?_),λz p o n t=>q _ _ (.tup n t (zp7 r1 lo hi))⟩)
       rw [r1.length] at z
       rw [zsJ z]
       exact .tup h1 r1
   | lst h r=>cases e
   | dK h r=>cases e
   | dT h r=>cases e
   | lk _ _=>cases e
   | bx _ _ _ _=>cases e
   | dq _=>cases e
   | dA _ _=>cases e
   | ob _ _=>cases e
  ·rename_i ds e
   obtain ⟨a,vs,rfl,h1,r1⟩:=zbA ex w e
   exact .inl ⟨a,vs,rfl,.of h1,λp n=>q _ _ (.lst n (zp7 r1 lo hi))⟩
  ·rename_i s e
   have h1:=za6 (u:=.str s) w (by rw [e]; rfl)
   subst h1
   exact .inr (.inr ⟨s,rfl,q.1,q.2 _ _ (.same (.str _))⟩)
  ·exact q.elim
 mono:=λa lo hi q q' h k=>by
  unfold opSl at *
  split at k
  ·exact h _ k
  ·exact h _ k
  ·exact ⟨k.1,h _ k.2⟩
  ·exact k.elim
end
theorem CallR.or {X:Cx} {f:Value} {r r':List V->Hp->VK->Prop} (h:CallR X f r) (h':CallR X f r'):CallR X f (λxs H Q=>r xs H Q\/r' xs H Q):=by
 intro pins s σ H xs us Q I rv q
 exact q.elim (h pins s σ H xs us Q I rv) (h' pins s σ H xs us Q I rv)
def one (ms:List M) (k:M->Prop):Prop:=match ms with
 | [m]=>k m
 | _=>False
theorem zcx {K:PySem.W.Frag} {G H:Hp} {vs:List V} {ms:List M} {k:M->Prop} (w:Owns K G H vs ms) (q:one ms k):∃ v m,vs=[v]/\ms=[m]/\(∃ F,Own K G H v m F)/\k m:=by
 unfold one at q
 split at q
 ·rename_i m
  match vs,w with
  | [v],w=>exact ⟨v,m,rfl,rfl,w.1,q⟩
  | [],w=>exact w.elim
  | _::_::_,w=>exact w.2.elim
 ·exact q.elim
theorem zbv {ms:List M} {k k':M->Prop} (h:∀ m,k m->k' m) (q:one ms k):one ms k':=by
 unfold one at *
 split at q
 ·exact h _ q
 ·exact q.elim
def two (ms:List M) (k:M->M->Prop):Prop:=match ms with
 | [m,n]=>k m n
 | _=>False
theorem zyo {K:PySem.W.Frag} {G H:Hp} {vs:List V} {ms:List M} {k:M->M->Prop} (w:Owns K G H vs ms) (q:two ms k):∃ v u m n,vs=[v,u]/\ms=[m,n]/\(∃ F,Own K G H v m F)/\(∃ F,Own K G H u n F)/\k m n:=by
 unfold two at q
 split at q
 ·rename_i m n
  match vs,w with
  | [v,u],w=>exact ⟨v,u,m,n,rfl,rfl,w.1,w.2.1,q⟩
  | [],w=>exact w.elim
  | [_],w=>exact w.2.elim
  | _::_::_::_,w=>exact w.2.2.elim
 ·exact q.elim
theorem zvE {ms:List M} {k k':M->M->Prop} (h:∀ m n,k m n->k' m n) (q:two ms k):two ms k':=by
 unfold two at *
 split at q
 ·exact h _ _ q
 ·exact q.elim
def lenD:D->Option Nat
 | .tup ds=>some ds.length
 | .lst ds=>some ds.length
 | .scr ns=>some ns.length
 | .dK kvs=>some kvs.length
 | .dT kvs=>some kvs.length
 | .str s=>some s.length
 | _=>none
def lenOk:D->Prop
 | .str s=>s.length<=sizeLine
 | _=>True
def zcc:OPN:=λms q=>one ms λm=>match lenD m.d with
 | some n=>lenOk m.d/\q (.fz (.int n))
 | none=>False
def zw8:List V->Hp->VK->Prop:=λxs H Q=>∃ (p:Addr) (kvs:List (List Key×V)),xs=[.ref p]/\Rd H p (.dT kvs)/\Q (.int ((kvs.length:Nat):Int)) H
def zw9:List V->Hp->VK->Prop:=λxs H Q=>∃ (p:Addr) (kvs:List (Key×V)),xs=[.ref p]/\Rd H p (.dK kvs)/\Q (.int ((kvs.length:Nat):Int)) H
theorem zri {X:Cx}:CallR X (.builtin "len") zw8:=by
 intro pins s σ H xs us Q I r h
 obtain ⟨p,kvs,rfl,hp,q⟩:=h
 obtain ⟨u,rfl,rx⟩:=vals1 r
 obtain rfl:u=.ref p:=rx
 obtain ⟨z,hd,ys,rel,dd⟩:=dt_rd I.hok hp
 have hl:kvs.length=ys.length:=Paired.length rel
 refine call_len_dictH hd dd (by rw [← hl]; rw [sizeLine_eq] at z; omega) ?_
 rw [← hl]
 exact ⟨.int ((kvs.length:Nat):Int),H,I.tok _,⟨_,rfl⟩,q⟩
theorem zrj {X:Cx}:CallR X (.builtin "len") zw9:=by
 intro pins s σ H xs us Q I r h
 obtain ⟨a,kvs,rfl,ha,q⟩:=h
 obtain ⟨u,rfl,ru⟩:=vals1 r
 cases ru
 exact d_len I ha λt s' I'=>⟨.int kvs.length,H,I',⟨t,rfl⟩,q⟩
abbrev zsK (K:PySem.W.Frag):List V->Hp->VK->Prop:=λxs H Q=>(∃ x n,xs=[x]/\LenV K x H n/\Q (.int n) H)\/zw9 xs H Q\/zw8 xs H Q
section
variable {X:Cx} {K:PySem.W.Frag}
theorem zan:CallR X (.builtin "len") (zsK X.K):=CallR.or call_len (CallR.or zrj zri)
theorem zaM:SndN K (zsK K) zcc where
 run:=λG H xs ms Q ex ow q=>by
  obtain ⟨v,m,rfl,rfl,⟨F,w⟩,q⟩:=zcx ow q
  split at q
  ·rename_i n e
   obtain ⟨q1,q⟩:=q
   generalize hd:m.d=d at e q1
   cases d with
   | tup ds =>
     cases e
     obtain ⟨a,vs,rfl,h1,r1⟩:=zfx ex w hd
     exact .inl ⟨_,_,rfl,.inr ⟨vs,h1.sqT,by rw [r1.length]⟩,q _ _ (.same (.int _))⟩
   | lst ds =>
     cases e
     obtain ⟨a,vs,rfl,h1,r1⟩:=zbA ex w hd
     exact .inl ⟨_,_,rfl,.inl ⟨vs,.of h1,by rw [r1.length]⟩,q _ _ (.same (.int _))⟩
   | scr ns =>
     cases e
     obtain ⟨a,rfl,h1⟩:=zsH ex w hd
     exact .inl ⟨_,_,rfl,.inl ⟨_,h1,by rw [yac]⟩,q _ _ (.same (.int _))⟩
   | dK ds =>
     cases e
     obtain ⟨a,vs,rfl,h1,r1⟩:=zp3 ex w hd
     refine .inr (.inl ⟨a,vs,rfl,h1,?_⟩)
     rw [r1.length]
     exact q _ _ (.same (.int _))
   | dT ds =>
     cases e
     obtain ⟨a,vs,rfl,h1,r1⟩:=zsG ex w hd
     refine .inr (.inr ⟨a,vs,rfl,h1,?_⟩)
     rw [r1.length]
     exact q _ _ (.same (.int _))
   | str s =>
     cases e
     have h1:=za6 (u:=.str s) w (by rw [hd]; rfl)
     subst h1
     exact .inl ⟨_,_,rfl,⟨q1,rfl⟩,q _ _ (.same (.int _))⟩
   | _=>cases e
  ·exact q.elim
 mono:=λa q q' h k=>zbv (λm k=>by
  split at k
  ·exact ⟨k.1,h _ k.2⟩
  ·exact k.elim) k
end
def tyNm:D->Option String
 | .non=>some "NoneType"
 | .bl _=>some "bool"
 | .int _=>some "int"
 | .str _=>some "str"
 | .tup _=>some "tuple"
 | .lst _=>some "list"
 | .dK _=>some "dict"
 | _=>none
def isiB (t T:String):Bool:=t==T||(t == "bool" && T == "int")
def zsL:List String:=["int", "bool", "str", "tuple", "list", "dict"]
theorem zyp:∀ t∈["NoneType", "bool", "int", "str", "tuple", "list", "dict"],∀ T∈zsL,kitB t T=some (isiB t T):=by decide +kernel
def zo2:OPN:=λms q=>two ms λm n=>match n with
 | .fz (.ty T)=>match tyNm m.d with
   | some t=>zsL.contains T=true/\q (.fz (.bl (isiB t T)))
   | none=>False
 | _=>False
theorem zvF {d:D} {t:String} (e:tyNm d=some t):t∈["NoneType", "bool", "int", "str", "tuple", "list", "dict"]:=by
 cases d<;>first
  | (cases e; decide)
  | cases e
section
variable {X:Cx} {K:PySem.W.Frag}
theorem own_ty {G H:Hp} {x:V} {m:M} {F:List Addr} {t:String} (ex:Ex G H) (w:Own K G H x m F) (e:tyNm m.d=some t):TyX K H x (.type t):=by
 cases w with
 | fz w =>
   cases w with
   | non=>cases e; exact .base .non
   | bl _=>cases e; exact .base (.bl _)
   | int _=>cases e; exact .base (.int _)
   | str _=>cases e; exact .base (.str _)
   | tup h r =>
     cases e
     obtain ⟨o,h,t⟩:=h.mono ex
     cases t with
     | key _=>exact .base (.tup h)
     | frz _ _ _ _=>exact .fTuple h
   | lst h r=>cases e; exact .base (.lst (ex.keep h))
   | dK h r =>
     cases e
     rcases ex.rd h with h | ⟨o,h⟩
     ·exact .base (.dK h)
     ·exact .fDict h
   | _=>cases e
 | lst h r=>cases e; exact .base (.lst h)
 | dK h r=>cases e; exact .base (.dK h)
 | dT h r=>cases e
 | lk _ _=>cases e
 | bx _ _ _ _=>cases e
 | dq _=>cases e
 | dA h _=>cases e; exact .base (.dK h)
 | ob _ _=>cases e
theorem zmi:SndN K (rIsi K) zo2 where
 run:=λG H xs ms Q ex ow q=>by
  obtain ⟨v,u,m,n,rfl,rfl,⟨F,w⟩,⟨F',w'⟩,q⟩:=zyo ow q
  split at q
  ·rename_i T _
   split at q
   ·rename_i t e
    obtain ⟨q1,q⟩:=q
    cases w' with
    | fz w' =>
      cases w'
      have tb:=zyp t (zvF e) T (by simpa using q1)
      exact ⟨v,.ty T,.type t,.type T,isiB t T,rfl,.ty T,own_ty ex w e,kit_ty tb,q _ _ (.same (.bl _))⟩
   ·exact q.elim
  ·exact q.elim
 mono:=λa q q' h k=>zvE (λm n k=>by
  split at k
  ·split at k
   ·exact ⟨k.1,h _ k.2⟩
   ·exact k.elim
  ·exact k.elim) k
end
def zde:OPN:=λms q=>one ms λm=>match m.d with
 | .lst ds=>q (.fz (.tup ds))
 | .tup ds=>q (.fz (.tup ds))
 | _=>False
def zlo:OPN:=λms q=>one ms λm=>match m.d with
 | .lst ds=>q (.lst ds)
 | .tup ds=>q (.lst ds)
 | _=>False
abbrev zxa (K:PySem.W.Frag):List V->Hp->VK->Prop:=λxs H Q=>∃ p ys,xs=[.ref p]/\((SqL K H p ys/\∀ l o,H l=none->TupO ys o->Q (.ref l) (upd H l o))\/(SqT K H p ys/\Q (.ref p) H))
abbrev rLstOf (K:PySem.W.Frag):List V->Hp->VK->Prop:=λxs H Q=>∃ p ys,xs=[.ref p]/\(SqL K H p ys\/SqT K H p ys)/\∀ l,H l=none->Q (.ref l) (upd H l (.lst ys))
section
variable {X:Cx} {K:PySem.W.Frag}
theorem zbe:CallR X (.type "tuple") (zxa X.K):=by
 intro pins s σ H xs us Q I r h
 obtain ⟨p,ys,rfl,h⟩:=h
 obtain ⟨u,rfl,rx⟩:=vals1 r
 cases rx
 rcases h with ⟨hq,q⟩ | ⟨hq,q⟩
 ·obtain ⟨its,r',pl,hz⟩:=I.list hq
  have hlen:=r'.length
  refine call_tuple_list pl.isList (λh' kp => ?_) (by simp only [yaW]<;>omega)
  have I1:Inv X pins σ H { s with heap:=h' }:=I.kept (t':=s.toks) kp
  obtain ⟨o,t,I2⟩:=zhq I1 hz r'
  exact ⟨.ref h'.objs.size,_,I2,rfl,q _ _ (I1.hok.fresh (yaj _)) t⟩
 ·obtain ⟨its,r',pl,hz⟩:=I.tuple hq
  exact call_tuple_same pl ⟨.ref p,H,I,rfl,q⟩
theorem zcd:SndN K (zxa K) zde where
 run:=λG H xs ms Q ex ow q=>by
  obtain ⟨v,m,rfl,rfl,⟨F,w⟩,q⟩:=zcx ow q
  split at q
  ·rename_i ds e
   obtain ⟨a,vs,rfl,h1,r1⟩:=zbA ex w e
   exact ⟨a,vs,rfl,.inl ⟨.of h1,λl o n t=>q _ _ (.tup n t r1)⟩⟩
  ·rename_i ds e
   cases w with
   | fz w =>
     have e:_=D.tup ds:=e
     subst e
     cases w with
     | tup h1 r1=>exact ⟨_,_,rfl,.inr ⟨(h1.mono ex).sqT,q _ _ (.same (.tup h1 r1))⟩⟩
   | lst h r=>cases e
   | dK h r=>cases e
   | dT h r=>cases e
   | lk _ _=>cases e
   | bx _ _ _ _=>cases e
   | dq _=>cases e
   | dA _ _=>cases e
   | ob _ _=>cases e
  ·exact q.elim
 mono:=λa q q' h k=>zbv (λm k=>by
  split at k
  ·exact h _ k
  ·exact h _ k
  ·exact k.elim) k
theorem zmj:SndN K (rLstOf K) zlo where
 run:=λG H xs ms Q ex ow q=>by
  obtain ⟨v,m,rfl,rfl,⟨F,w⟩,q⟩:=zcx ow q
  split at q
  ·rename_i ds e
   obtain ⟨a,vs,rfl,h1,r1⟩:=zbA ex w e
   exact ⟨a,vs,rfl,.inl (.of h1),λl n=>q _ _ (.lst n r1)⟩
  ·rename_i ds e
   obtain ⟨a,vs,rfl,h1,r1⟩:=zfx ex w e
   exact ⟨a,vs,rfl,.inr h1.sqT,λl n=>q _ _ (.lst n r1)⟩
  ·exact q.elim
 mono:=λa q q' h k=>zbv (λm k=>by
  split at k
  ·exact h _ k
  ·exact h _ k
  ·exact k.elim) k
def leD (x y:D):Bool:=!ltD y x
def zfh (ds:List D):List D:=ds.mergeSort leD
def zfi (ps:List PyData):Bool:=ps.all (λp=>ps.all (λq=>PySem.W.alike p q))&&ps.all (λp=>decide (p.depth<=60)) &&
 (ps.all (λp=>match p with
  | .tuple (_::_)=>true
  | _=>false)||ps.all (λp=>match p with
  | .none=>false
  | .tuple _=>false
  | _=>true))
def rSort (K:PySem.W.Frag):List V->Hp->VK->Prop:=λxs H Q=>∃ a vs ps,xs=[V.ref a]/\SqL K H a vs/\DpAll K H vs ps/\zfi ps=true/\∀ p,H p=none->Q (.ref p) (upd H p (.lst (((vs.zip ps).mergeSort (PySem.W.dataLe false (·.2))).map (·.1))))
theorem zsM {H:Hp}:∀ {vs:List V} {ps:List PyData},DpAll K H vs ps->vs.length=ps.length
 | _,_,.nil=>rfl
 | _,_,.cons _ r=>ya8 (· + 1) (zsM r)
theorem zsN (hu:X.A.units+64<cLine):CallR X (.builtin "sorted") (rSort X.K):=by
 intro pins s σ H xs us Q I r ⟨a,vs,ps,ex,hs,hd,ok,q⟩
 subst ex
 obtain ⟨its,rv,hl,hz⟩:=I.list hs
 rw [Vals.ref1 r]
 have len:=zsM hd
 have each:∀ {vs:List V} {ps:List PyData} {its:List Value},Vals vs its->DpAll X.K H vs ps->PySem.W.EachIs (λ(v:Value) (b:V×PyData)=>RelV b.1 v/\Dp X.K H b.1 b.2) its (vs.zip ps):=by
  intro vs ps its rv hd
  induction rv generalizing ps with
  | nil =>
    cases hd
    exact .nil
  | cons r rv ih =>
    cases hd with
    | cons h hd=>exact .cons ⟨r,h⟩ (ih hd)
 unfold zfi at ok
 obtain ⟨ok,o3⟩:=yaX.mp ok
 obtain ⟨o1,o2⟩:=yaX.mp ok
 have em:(vs.zip ps).map (·.2)=ps:=by
  rw [List.map_snd_zip]
  omega
 have mem:∀ b,b∈vs.zip ps->b.2∈ps:=λb hb=>(ycM hb).2
 refine PySem.W.sorted_data (R:=λ(v:Value) (b:V×PyData)=>RelV b.1 v/\Dp X.K H b.1 b.2) (enc:=(·.2)) (bs:=vs.zip ps) hl.isList (each rv hd) ?_ ?_ ?_ ?_ ?_ λout ol eo => ?_
 ·exact (each rv hd).mono λv b ⟨h1,h2⟩=>Dp.reads I b.2 b.1 v h2 h1
 ·rw [em]
  intro d hd d' hd'
  exact yav.mp (yav.mp o1 d hd) d' hd'
 ·rw [em]
  rcases Bool.or_eq_true_iff.mp o3 with z | z
  ·refine .inl λd hd => ?_
   have:=yav.mp z d hd
   split at this
   ·exact ⟨_,_,rfl⟩
   ·cases this
  ·refine .inr λd hd => ?_
   have:=yav.mp z d hd
   refine ⟨λe => ?_,λxs e => ?_⟩
   ·rw [e] at this
    cases this
   ·rw [e] at this
    cases this
 ·rw [ybM,← len,ycn]
  exact hz
 ·intro b hb
  have:=yao (yav.mp o2 b.2 (mem b hb))
  omega
 ·obtain ⟨ep,he⟩:=PyProof.Rows.sortedAll_at s.heap its out.toArray
  have vout:Vals (((vs.zip ps).mergeSort (PySem.W.dataLe false (·.2))).map (·.1)) out:=by
   have conv:∀ {out:List Value} {bs:List (V×PyData)},PySem.W.EachIs (λ(v:Value) (b:V×PyData)=>RelV b.1 v/\Dp X.K H b.1 b.2) out bs->Vals (bs.map (·.1)) out:=by
    intro out bs e
    induction e with
    | nil=>exact .nil
    | cons h _ ih=>exact .cons h.1 ih
   exact conv eo
  have hlen:(((vs.zip ps).mergeSort (PySem.W.dataLe false (·.2))).map (·.1)).length<=sizeLine:=by
   rw [yac,ybU,ybM,← len,ycn]
   exact hz
  exact ⟨.ref _,upd H (s.heap.objs.size+1) (.lst _),I.laid (t':=s.toks) (λ_ _ z=>PyProof.Rows.sortedAll_old z) (ycS _) ⟨hlen,out,ep,vout,he⟩,rfl,q _ (I.hok.fresh (ycS _))⟩
theorem tri {G:Hp}:∀ {vs:List V} {ds:List D} {ps:List PyData},Reps K G vs ds->D.pys ds=some ps->∃ T:List (V×D×PyData),vs=T.map (·.1)/\ds=T.map (·.2.1)/\vs.zip ps=T.map (λt=>(t.1,t.2.2))/\∀ t∈T,Rep K G t.1 t.2.1/\t.2.1.py=some t.2.2
 | _,_,_,.nil,e=>by
   cases e
   exact ⟨[],rfl,rfl,rfl,λ_ z=>nomatch z⟩
 | _,_,_,.cons (v:=v) (d:=d) h r,e=>by
   unfold D.pys at e
   split at e
   ·rename_i p ps e1 e2
    cases e
    obtain ⟨T,h1,h2,h3,h4⟩:=tri r e2
    refine ⟨(v,d,p)::T,by rw [h1]; rfl,by rw [h2]; rfl,?_,λt ht => ?_⟩
    ·rw [List.zip_cons_cons,h3]
     rfl
    ·rcases yap.mp ht with z | z
     ·subst z
      exact ⟨h,e1⟩
     ·exact h4 t z
   ·cases e
theorem zp8 {G:Hp}:∀ {T:List (V×D×PyData)},(∀ t∈T,Rep K G t.1 t.2.1)->Reps K G (T.map (·.1)) (T.map (·.2.1))
 | [],_=>.nil
 | t::T,h=>.cons (h t yaa) (zp8 λt z=>h t (yab _ z))
theorem znv {G:Hp} {vs:List V} {ds:List D} {ps:List PyData} (r:Reps K G vs ds) (e:D.pys ds=some ps):Reps K G (((vs.zip ps).mergeSort (PySem.W.dataLe false (·.2))).map (·.1)) (zfh ds):=by
 obtain ⟨T,h1,h2,h3,h4⟩:=tri r e
 have a1:(T.mergeSort λa b=>leD a.2.1 b.2.1).map (λt=>(t.1,t.2.2))=(vs.zip ps).mergeSort (PySem.W.dataLe false (·.2)):=by
  rw [h3]
  refine ybS λa ha b hb => ?_
  show leD a.2.1 b.2.1=PySem.W.dataLe false (·.2) (a.1,a.2.2) (b.1,b.2.2)
  rw [PySem.W.dataLe_eq]
  show (!ltD b.2.1 a.2.1) = !PySem.W.dataLt b.2.2 a.2.2
  unfold ltD
  rw [(h4 a ha).2,(h4 b hb).2]
 have a2:(T.mergeSort λa b=>leD a.2.1 b.2.1).map (·.2.1)=zfh ds:=by
  rw [h2]
  exact ybS λa ha b hb=>rfl
 rw [← a1,← a2,yaY]
 exact zp8 λt z=>(h4 t ((ybY _ _).mem_iff.mp z)).1
end
def pairK:D->Option (Key×D)
 | .tup [k,v]=>(keyK k).map λk=>(k,v)
 | _=>none
def zgP:List D->Option (List (Key×D))
 | []=>some []
 | d::ds=>match pairK d,zgP ds with
   | some k,some ks=>some (k::ks)
   | _,_=>none
def zhz (kvs more:List (Key×D)):List (Key×D):=more.foldl (λacc kv=>setK acc kv.1 kv.2) kvs
def zp9:OPN:=λms q=>one ms λm=>match m.d with
 | .tup ds=>(match zgP ds with
   | some kvs=>q (.dK (zhz [] kvs))
   | none=>False)
 | .lst ds=>(match zgP ds with
   | some kvs=>q (.dK (zhz [] kvs))
   | none=>False)
 | .dK kvs=>q (.dK kvs)
 | _=>False
def zvG (H:Hp) (a:Addr) (vs:List V):Prop:=∃ o its n,H a=some (.frz o (.tup vs))/\o.cls=.type "tuple" /\ o.dict=none/\o.data=.seq its n
def zsO (K:PySem.W.Frag):List V→Hp→VK→Prop:=fun xs H Q=>∃ (a:Addr) (ps:List Addr) (kvs:List (Key×V)),xs=[.ref a]∧(SqL K H a (ps.map V.ref)∨zvG H a (ps.map V.ref))∧Paired (fun p kv=>SqT K H p [kV kv.1,kv.2]) ps kvs ∧
    ∀ p,H p=none->Q (.ref p) (upd H p (.dK (mergeK [] kvs)))
section
variable {X:Cx} {K:PySem.W.Frag}
theorem zxb {pins:List (Addr×Obj)} {σ:L2.St} {H:Hp} {s:Shared} (I:Inv X pins σ H s):∀ {ps:List Addr} {kvs:List (Key×V)},Paired (λp kv=>SqT X.K H p [kV kv.1,kv.2]) ps kvs ->
 ∃ (prs:List (Key×Value)) (us:List (Value×Value)),KV kvs prs/\prs.length=ps.length/\us.length=ps.length/\∀ (j:Nat) (k v:Value),us[j]?=some (k,v)->∃ (b:Addr) (q:Key),ps[j]?=some b/\prs[j]?=some (q,v)/\IsTup s.heap b #[k,v]/\keyIs q k=true
 | _,_,.nil=>⟨[],[],.nil,rfl,rfl,λj k v e=>by simp at e⟩
 | _,_,.cons (a:=p) (b:=kv) h t=>by
   obtain ⟨prs,us,r,hl,hl2,hp⟩:=zxb I t
   obtain ⟨its,rv,ht,_⟩:=I.tuple h
   obtain ⟨u,y,ei,ru,ry⟩:=vals2 rv
   subst ei
   refine ⟨(kv.1,y)::prs,(u,y)::us,.cons ⟨rfl,ry⟩ r,by rw [yaB,yaB,hl],by rw [yaB,yaB,hl2],λj k v e => ?_⟩
   cases j with
   | zero =>
     have e':(u,y)=(k,v):=yaT e
     cases e'
     exact ⟨p,kv.1,rfl,rfl,ht,kV_is (P:=X.prog) (w:=X.w) ru⟩
   | succ j =>
     obtain ⟨b,q,e1,e2,e3,e4⟩:=hp j k v (by simpa using e)
     exact ⟨b,q,by simpa using e1,by simpa using e2,e3,e4⟩
theorem zo3 (hcalm:X.calm=true):CallR X (.type "dict") (zsO X.K):=by
 intro pins s σ H xs us Q I r q
 obtain ⟨a,ps,kvs,ex,hq,hp,q⟩:=q
 rcases hq with hq | hq
 ·exact call_dictP hcalm pins s σ H xs us Q I r ⟨a,ps,kvs,ex,hq,hp,q⟩
 ·subst ex
  obtain ⟨u,eu,rx⟩:=vals1 r
  subst eu
  cases rx
  obtain ⟨o,its0,n0,hH,hc,hd,hdat⟩:=hq
  obtain ⟨ho,hz,its,rv,pl⟩:=(show ObjOk X.prog X.w H s.heap a (.frz o (.tup (ps.map V.ref))) from I.hok a _ hH)
  have ei:=refs_at rv
  subst ei
  obtain ⟨o2,ho2,_,n,hdat2⟩:=pl
  rw [ho] at ho2
  cases ho2
  rw [yac] at hz
  obtain ⟨prs,us,rel,hl,hl2,hpr⟩:=zxb I hp
  have psq:PlainSeq "tuple" s.heap a (ps.map Value.ref).toArray:=⟨o,n,ho,hc,hd,hdat2⟩
  have pit:PairItems s.heap (ps.map Value.ref).toArray (λj=>ps.getD j 0) us:=by
   refine ⟨by simp [hl2],λj k v e => ?_⟩
   obtain ⟨b,q',e1,e2,e3,e4⟩:=hpr j k v e
   have eb:ps.getD j 0=b:=by rw [yaO,e1]; rfl
   dsimp only
   rw [eb]
   exact ⟨by simp [e1],.inl e3⟩
  refine PySem.call_dict_pairs (knd:=mixKind X.prog X.w) (kvs:=prs) (PairArg.tuple a _ _ us) (I.ok.hd hcalm) ⟨psq,pit⟩ ?_ (by rw [hl2]; exact hz) λh' tk hd' k => ?_
  ·refine ⟨by rw [hl,hl2],λj k v e => ?_⟩
   obtain ⟨b,q',e1,e2,e3,e4⟩:=hpr j k v e
   exact ⟨q',e2,e4⟩
  ·have hm:(s.heap.objs.size==sysModules)=false:=ybZ.mpr (ya2 I.big)
   have hlen:(mergeK [] kvs).length<=sizeLine:=by
    refine ya7 (length_mergeK kvs []) ?_
    rw [yba,ya4,rel.length,hl]
    exact hz
   exact ⟨.ref s.heap.objs.size,upd H s.heap.objs.size (.dK (mergeK [] kvs)),I.laid (t':=tk) (λb o e=>k b o (by simp) e) (yaj _) (show ObjOk X.prog X.w _ _ _ (.dK (mergeK [] kvs)) from ⟨hlen,hm,merged [] prs,KV.merge rel .nil,hd'⟩),rfl,q _ (I.hok.fresh (yaj _))⟩
theorem zo4 (ps:List Addr):zfM (ps.map V.ref)=false:=by
 cases ps<;>rfl
theorem zid {G H:Hp} (ex:Ex G H):∀ {vs:List V} {ds:List D} {kds:List (Key×D)},Reps K G vs ds->zgP ds=some kds->∃ (ps:List Addr) (kvs:List (Key×V)),vs=ps.map V.ref/\Paired (λp kv=>SqT K H p [kV kv.1,kv.2]) ps kvs/\RepK K G kvs kds
 | _,_,_,.nil,e=>by cases e; exact ⟨[],[],rfl,.nil,.nil⟩
 | _,_,_,.cons (d:=d) (ds:=ds) h r,e=>by
   unfold zgP at e
   split at e
   ·rename_i k ks e1 e2
    cases e
    obtain ⟨ps,kvs,rfl,hp,rk⟩:=zid ex r e2
    unfold pairK at e1
    split at e1
    ·rename_i kd vd
     obtain ⟨key,ek,ev⟩:=yaP.mp e1
     subst ev
     cases h with
     | tup ht rt =>
       cases rt with
       | cons h1 rt =>
         cases rt with
         | cons h2 rt =>
           cases rt
           have:=zhy (H:=G) (Own.fz h1) ek
           subst this
           exact ⟨_::ps,(key,_)::kvs,rfl,.cons (ht.mono ex).sqT hp,.cons h2 rk⟩
    ·cases e1
   ·cases e
theorem zie {G:Hp}:∀ {vs:List (Key×V)} {ds:List (Key×D)} {avs:List (Key×V)} {ads:List (Key×D)},RepK K G vs ds->RepK K G avs ads->RepK K G (mergeK avs vs) (zhz ads ds)
 | _,_,_,_,.nil,q=>q
 | _,_,avs,ads,.cons (k:=k) (v:=v) (d:=d) (vs:=vs) (ds:=ds) h r,q=>zie (vs:=vs) (ds:=ds) (avs:=putK avs k v) (ads:=setK ads k d) r (zp2 h q)
abbrev zqa (K:PySem.W.Frag):List V->Hp->VK->Prop:=λxs H Q=>zsO K xs H Q\/(∃ a kvs,xs=[.ref a]/\Rd H a (.dK kvs)/\∀ p,H p=none->Q (.ref p) (upd H p (.dK kvs)))
theorem znw (hcalm:X.calm=true):CallR X (.type "dict") (zqa X.K):=by
 refine CallR.or (zo3 hcalm) ?_
 intro pins s σ H xs us Q I r ⟨a,kvs,ex,e,q⟩
 subst ex
 obtain ⟨u,eu,rx⟩:=vals1 r
 subst eu
 cases rx
 exact d_copyOf I e λp s' n I'=>⟨.ref p,_,I',rfl,q p n⟩
theorem zvH:SndN K (zqa K) zp9 where
 run:=λG H xs ms Q ex ow q=>by
  obtain ⟨v,m,rfl,rfl,⟨F,w⟩,q⟩:=zcx ow q
  split at q
  ·rename_i ds e
   split at q
   ·rename_i kds ek
    obtain ⟨a,vs,rfl,h1,r1⟩:=zfx ex w e
    obtain ⟨ps,kvs,rfl,hp,rk⟩:=zid ex r1 ek
    exact .inl ⟨a,ps,kvs,rfl,.inr (h1.frz (zo4 ps)),hp,λp n=>q _ _ (.dK n (zie rk .nil))⟩
   ·exact q.elim
  ·rename_i ds e
   split at q
   ·rename_i kds ek
    obtain ⟨a,vs,rfl,h1,r1⟩:=zbA ex w e
    obtain ⟨ps,kvs,rfl,hp,rk⟩:=zid ex r1 ek
    exact .inl ⟨a,ps,kvs,rfl,.inl (.of h1),hp,λp n=>q _ _ (.dK n (zie rk .nil))⟩
   ·exact q.elim
  ·rename_i kds e
   obtain ⟨a,vs,rfl,h1,r1⟩:=zp3 ex w e
   exact .inr ⟨a,vs,rfl,h1,λp n=>q _ _ (.dK n r1)⟩
  ·exact q.elim
 mono:=λa q q' h k=>zbv (λm k=>by
  split at k
  ·split at k
   ·exact h _ k
   ·exact k.elim
  ·split at k
   ·exact h _ k
   ·exact k.elim
  ·exact h _ k
  ·exact k.elim) k
end
def zlp (op op':OP2) (oa ob oc:WO):WE:=λe Q X=>oa e (λa e1=>ob e1 (λb e2=>zaS a e2 λma=>zaS b e2 λmb=>op ma mb λm=>match m with
 | .fz (.bl true)=>oc e2 (λc e3=>zaS b e3 λmb'=>zaS c e3 λmc=>op' mb' mc λm=>Q m e3) X
 | .fz (.bl false)=>Q (.fz (.bl false)) e2
 | _=>False) X) X
section
variable {y:Y} {a b c:Expr} {oa ob oc:WO} {op op':OP2} {r r':R2} {o o':CmpOp} {pos:Pos}
theorem zjX {K:PySem.W.Frag} (hs:Snd2 K r op) (hs':Snd2 K r' op') (ha:ze7 oa) (hb:ze7 ob) (hc:ze7 oc):zcp (zlp op op' oa ob oc):=λe Q Q' X X' hq hx q =>
 ha e _ _ _ _ (λa e1 q=>hb e1 _ _ _ _ (λb e2 q=>zaF (λma q=>zaF (λmb q=>hs.mono _ _ _ _ (λm q=>by
  split at q
  ·exact hc _ _ _ _ _ (λc e3 q=>zaF (λmb q=>zaF (λmc q=>hs'.mono _ _ _ _ (λm q=>hq _ _ q) q) q) q) hx q
  ·exact hq _ _ q
  ·exact q.elim) q) q) q) hx q) hx q
theorem zsP (hs:Snd2 y.X.K r op) (hs':Snd2 y.X.K r' op') (ha:ze7 oa) (hb:ze7 ob) (hc:ze7 oc) (σ:L2.St) (H:Hp) (Q:VK) (h:zgK y (zlp op op' oa ob oc) σ H Q) :
 tChain r r' (zl3 y oa) (zl3 y ob) (zl3 y oc) σ H Q:=by
 obtain ⟨e,P,h0,h⟩:=h
 refine ⟨e,P,h0,ha e _ _ _ _ (λa e1 q v H1 o1 => ?_) (λ_ _ q=>q) h⟩
 obtain ⟨o1,p1⟩:=o1
 refine ⟨e1,pend a v++P,o1,hb e1 _ _ _ _ (λb e2 q u H2 o2 => ?_) (λ_ _ q=>zcq q) q⟩
 obtain ⟨o2,p2⟩:=o2
 obtain ⟨ma,m1,q⟩:=za4 o2 (λp z=>yag _ (yai _ z)) p1 q
 obtain ⟨mb,m2,q⟩:=zb8 o2 p2 q
 have o2':Ok y.X.K H2 σ e2 (pend a v++(pend b u++P)):=o2.perm (by
  rw [← yae,← yae]
  exact yaC.append_right _)
 obtain ⟨G,g⟩:=o2'.2.opn
 have pm:∀ x,x∈prs σ e2++(pend b u++(pend a v++P))->x∈prs σ e2++(pend a v++(pend b u++P)):=λx hx=>by
  simp only [yay] at hx ⊢
  rcases hx with h | h | h | h
  ·exact .inl h
  ·exact .inr (.inr (.inl h))
  ·exact .inr (.inl h)
  ·exact .inr (.inr (.inr h))
 obtain ⟨F1,w1⟩:=g.ownX _ (zoX pm m1)
 obtain ⟨F2,w2⟩:=g.ownX _ (zoX pm m2)
 refine hs.run G H2 v u ma mb F1 F2 _ g.ex w1 w2 (hs.mono _ _ _ _ (λm q z H3 r3 => ?_) q)
 have o3:=g.fin o2'.1 r3
 split at q
 ·have ez:=zvh o3
  subst ez
  refine ⟨true,rfl,?_⟩
  rw [yaw rfl]
  refine ⟨e2,pend b u++P,o3.pop,hc e2 _ _ _ _ (λc e3 q w' H4 o4 => ?_) (λ_ _ q=>zcq q) q⟩
  obtain ⟨o4,p4⟩:=o4
  obtain ⟨mb',n1,q⟩:=za4 o4 (λp z=>yag _ (yai _ z)) p2 q
  obtain ⟨mc,n2,q⟩:=zb8 o4 p4 q
  obtain ⟨G',g'⟩:=o4.2.opn
  obtain ⟨F3,w3⟩:=g'.ownX _ n1
  obtain ⟨F4,w4⟩:=g'.ownX _ n2
  rw [show pend c w'++(pend b u++P)=(pend c w'++pend b u)++P from (yae _ _ _).symm] at g'
  exact hs'.run G' H4 u w' mb' mc F3 F4 Q g'.ex w3 w4 (hs'.mono _ _ _ _ (λm q v' H' r'=>q v' H' (g'.fin o4.1 r')) q)
 ·have ez:=zvh o3
  subst ez
  refine ⟨false,rfl,?_⟩
  rw [yaz yax]
  refine q _ _ ⟨o3.1,?_⟩
  have s3:Sep y.X.K H3 (pend b u++((.bl false,.fz (.bl false))::(prs σ e2++P))):=o3.2.perm (by
   refine List.Perm.trans yad ?_
   refine List.Perm.trans ?_ (yad.symm)
   refine List.Perm.cons _ ?_
   rw [← yae,← yae]
   exact yaC.append_right _)
  exact (s3.right).perm yad.symm
 ·exact q.elim
theorem zvI (ho:OpR y.X (compareOp o) r) (ho':OpR y.X (compareOp o') r') (hs:Snd2 y.X.K r op) (hs':Snd2 y.X.K r' op') (ha:SO y a oa) (hb:SO y b ob) (hc:SO y c oc) (hm:lastMarks [o,o'] [b,c]=false) :
 ST y (.Compare a [o,o'] [b,c] pos) (tVal (zlp op op' oa ob oc)) where
 run:=zpV (pt_chain ho ho' ha.run hb.run hc.run hm) λσ H Q ⟨e,P,h0,q⟩=>by
  refine zsP hs hs' ha.mono hb.mono hc.mono σ H (λx H'=>∃ k,x=.bl k/\Q k H') ⟨e,P,h0,zjX hs hs' ha.mono hb.mono hc.mono _ _ _ _ _ (λm e' q v H' o => ?_) (λ_ _ q=>q) q⟩
  dsimp only at q
  split at q
  ·exact ⟨_,zvh o,q H' o.pop⟩
  ·exact q.elim
 mono:=znk (zjX hs hs' ha.mono hb.mono hc.mono)
end
section
variable {y:Y} {T id:String} {name:Str} {op:OPM} {i:Nat} {wa:WA} {r:V->List V->Hp->VK->Prop} {x:Str} {px apos cpos:Pos} {e:Expr} {es:List Expr}
structure zo5 (y:Y) (o:Expr) (name:Str) (apos cpos:Pos) (e:Expr) (es:List Expr):Prop where
 base:attributeBase o name y.X.env (eval o y.X.env)=eval o y.X.env
 few:((backTo cpos (starEach (e::es) y.X.env)).all (λx => !x.1)&&(backToKw cpos (keywordEach [] y.X.env)).all (λx=>x.1.isSome)
  && decide ((e::es).length+([]:List Keyword).length+(if ([]:List Keyword).isEmpty then 0 else 1)<30))=true
 line:(apos.endLine==cpos.line)=true
 star:starEach (e::es) y.X.env=(false,eval e y.X.env)::starEach es y.X.env
 plain:(backTo cpos (starEach es y.X.env)).any (·.1)=false
theorem se_mut (pa:PlainAttrs T) (slot:Slot T name id) (hty:typeOf (.builtin id)=pure (.type "method_descriptor")) (hm:MtR y.X id r) (hs:SndM y.X.K T r op) (c:zo5 y (.Name x px) name apos cpos e es)
 (hN:y.X.N[i]?=some x) (hv:Vis y.X.env.scope x) (hd:(x==("__debug__" : Str))=false) (hcd:(x==("__classdict__" : Str))=false) (ha:SA y (e::es) wa):SE y (.Call (.Attribute (.Name x px) name apos) (e::es) [] cpos) (wMut T op i wa) where
 run:=zbb (pe_bm pa slot hty hm (pe_var hN hv hd hcd) ha.run c.base c.few c.line c.star c.plain) λσ H Q q=>zvs hs ha.mono σ H Q q
 mono:=zsr hs ha.mono
end
structure SndT (K:PySem.W.Frag) (r:V->List V->Hp->VK->Prop) (op:M->OPN):Prop where
 run:∀ G H x mx F xs ms (Q:VK),Ex G H->Own K G H x mx F->Owns K G H xs ms->op mx ms (λm=>∀ v H',zh9 K G H m v H'->Q v H')->r x xs H Q
 mono:∀ a b (q q':M->Prop),(∀ m,q m->q' m)->op a b q->op a b q'
def mTy (T:String):D->Bool
 | .str _=>T == "str"
 | .int _=>T == "int"
 | .lst _=>T == "list"
 | _=>false
theorem zyq {K:PySem.W.Frag} {G H:Hp} {T:String} {v:V} {m:M} {F:List Addr} (ex:Ex G H) (h:mTy T m.d=true) (w:Own K G H v m F):tyV K T v H:=by
 cases w with
 | fz w=>cases w with
   | str s =>
     show T = "str"
     simpa [mTy,M.d] using h
   | int s =>
     show T = "int"
     simpa [mTy,M.d] using h
   | lst w r=>exact .inl ⟨by simpa [mTy,M.d] using h,_,.of (ex.keep w)⟩
   | _=>cases h
 | lst w r=>exact .inl ⟨by simpa [mTy,M.d] using h,_,.of w⟩
 | dK w r=>cases h
 | dT w r=>cases h
 | lk w r=>cases h
 | bx _ _ _ _=>cases h
 | dq _=>cases h
 | dA _ _=>cases h
 | ob _ _=>cases h
def wMt (T:String) (op:M->OPN) (o:WO) (wa:WA):WE:=λe Q X=>o e (λa e1=>zaS a e1 (λm=>mTy T m.d=true)/\wa e1 (λas e2=>zaS a e2 λm=>zbQ as e2 λms=>op m ms λr=>Q r e2) X) X
section
variable {y:Y} {T id:String} {name:Str} {op:M->OPN} {oo:WO} {wa:WA} {r:V->List V->Hp->VK->Prop} {o:Expr} {apos cpos:Pos} {e:Expr} {es:List Expr}
theorem zvJ {K:PySem.W.Frag} (hs:SndT K r op) (ho:ze7 oo) (ha:zfS wa):zcp (wMt T op oo wa):=λe Q Q' X X' hq hx q =>
 ho _ _ _ _ _ (λa e1 q=>⟨q.1,ha _ _ _ _ _ (λas e2 q=>zaF (λm q=>zdA (λms q=>hs.mono _ _ _ _ (λm q=>hq _ _ q) q) q) q) hx q.2⟩) hx q
theorem zyr (hs:SndT y.X.K r op) (ho:ze7 oo) (ha:zfS wa) (σ:L2.St) (H:Hp) (Q:VK) (h:zgK y (wMt T op oo wa) σ H Q):zl3 y oo σ H λx H1=>tyV y.X.K T x H1/\znj y wa σ H1 λxs H2=>r x xs H2 Q:=by
 obtain ⟨e,P,h0,h⟩:=h
 refine ⟨e,P,h0,ho e _ _ _ _ (λa e1 q v H1 o1 => ?_) (λ_ _ q=>q) h⟩
 obtain ⟨o1,p1⟩:=o1
 obtain ⟨t,q⟩:=q
 obtain ⟨m0,i0,t⟩:=zb8 o1 p1 t
 obtain ⟨G,g⟩:=o1.2.opn
 obtain ⟨F0,w0⟩:=g.ownX _ i0
 refine ⟨zyq g.ex t w0,e1,pend a v++P,o1,ha e1 _ _ _ _ (λas e2 q us H2 o2 => ?_) (λ_ _ q=>zcq q) q⟩
 obtain ⟨o2,p2⟩:=o2
 obtain ⟨m,m1,q⟩:=za4 o2 (λp z=>yag _ (yai _ z)) p1 q
 obtain ⟨G,g⟩:=o2.2.opn
 obtain ⟨ms,m2,q⟩:=zgt o2 g (λp z=>yai _ z) p2 q
 obtain ⟨F1,w1⟩:=g.ownX _ m1
 rw [show zc9 as us++(pend a v++P)=(zc9 as us++pend a v)++P from (yae _ _ _).symm] at g
 exact hs.run G H2 v m F1 us ms Q g.ex w1 m2 (hs.mono _ _ _ _ (λm q v' H' r'=>q v' H' (g.fin o2.1 r')) q)
theorem se_mt (pa:PlainAttrs T) (slot:Slot T name id) (hty:typeOf (.builtin id)=pure (.type "method_descriptor")) (hm:MtR y.X id r) (hs:SndT y.X.K r op) (c:zo5 y o name apos cpos e es) (ho:SO y o oo) (ha:SA y (e::es) wa) :
 SE y (.Call (.Attribute o name apos) (e::es) [] cpos) (wMt T op oo wa) where
 run:=zbb (pe_bm pa slot hty hm ho.run ha.run c.base c.few c.line c.star c.plain) λσ H Q q=>zyr hs ho.mono ha.mono σ H Q q
 mono:=zvJ hs ho.mono ha.mono
end
structure SndP (K:PySem.W.Frag) (t:TSet) (op:M->M->D->(M->Prop)->Prop):Prop where
 run:∀ G H p m F i mi F' v d (Q:Hp->Prop),Ex G H->Own K G H (.ref p) m F->Own K G H i mi F'->Rep K G v d->op m mi d (λm'=>∀ H',zrb K G H p m' H'->Q H')->t (.ref p) i v H Q
 mono:∀ a b d (q q':M->Prop),(∀ m,q m->q' m)->op a b d q->op a b d q'
abbrev isPl:M->Bool:=M.isP
def sSub (op:M->M->D->(M->Prop)->Prop) (p:Nat) (oi:WO) (w:WE):WS:=λE e=>w e (λm e1=>match e1[p]? with
 | some (some _)=>oi e1 (λa e2=>match e2[p]? with
   | some (some mp)=>isPl mp=true/\zaS a (e2.set p none) λmi=>op mp mi m.d λmp'=>E.nx (e2.set p (some mp'))
   | _=>False) E.ex
 | _=>False) E.ex
section
variable {y:Y} {κ:List (Nat×V)} {t:TSet} {op:M->M->D->(M->Prop)->Prop} {p:Nat} {oi:WO} {w:WE} {x:Str} {px sp pos:Pos} {ix e:Expr}
theorem zsQ {K:PySem.W.Frag} (hs:SndP K t op) (hi:ze7 oi) (h:zcp w):zhr (sSub op p oi w):=λE E' e l q=>h _ _ _ _ _ (λm e1 q=>by
 split at q
 ·exact hi _ _ _ _ _ (λa e2 q=>by
   split at q
   ·exact ⟨q.1,zaF (λmi q=>hs.mono _ _ _ _ _ (λm q=>l.nx _ q) q) q.2⟩
   ·exact q.elim) l.ex q
 ·exact q.elim) l.ex q
theorem zsR {m:M} (h:isPl m=true):m.isP=true:=h
theorem ss_sub (hs:SndP y.X.K t op) (ht:PSet y.X t) (hN:y.X.N[p]?=some x) (hv:Vis y.X.env.scope x) (hd:(x==("__debug__" : Str))=false) (hcd:(x==("__classdict__" : Str))=false) (hi:SO y ix oi) (h:SE y e w)
 (ha:∀ v,assign (.Subscript (.Name x px) ix sp) y.X.env v=(do
  let ov ← holding [v] (eval (.Name x px) y.X.env)
  let iv ← holding [v,ov] (eval ix y.X.env)
  standAt sp
  holding [v,ov,iv] (setItem ov iv v)
  release [v,ov,iv] []))
 (hsw:swapsWithSole [.Subscript (.Name x px) ix sp] e pos.line y.X.env=pure false) (hw:swappedStores [.Subscript (.Name x px) ix sp] e y.X.env=pure none)
 (h1:(assignEach [.Subscript (.Name x px) ix sp] y.X.env).map (·.2)=[assign (.Subscript (.Name x px) ix sp) y.X.env]):SS y κ (.Assign [.Subscript (.Name x px) ix sp] e pos) (sSub op p oi w) where
 run:=zeB (ps_asg h.run (pg_sub (pe_var hN hv hd hcd) hi.run ht ha) hsw hw h1) λD σ H ⟨e,P,hk,h0,q⟩=>⟨e,P,h0,h.mono _ _ _ _ _ (λm e1 q v H1 o1=>by
  split at q
  ·rename_i m0 em0
   obtain ⟨v0,ev0,_⟩:=o1.peek em0
   refine ⟨v0,ev0,e1,(v,.fz m.d)::P,o1.freeze,hi.mono _ _ _ _ _ (λa e2 q iv H2 o2 => ?_) (λx e' q c d H' r o=>q σ c d H' hk r o.pop) q⟩
   obtain ⟨o2,p2⟩:=o2
   split at q
   ·rename_i mp emp
    obtain ⟨tm,q⟩:=q
    obtain ⟨v',ev',om⟩:=o2.take emp
    have e3:some (some v0)=some (some v'):=ev0.symm.trans ev'
    cases e3
    obtain ⟨G1,p1,F1,rfl,w1,ex1,oth,up⟩:=(om.2.perm yad).mutR (zsR tm)
    obtain ⟨mi,ins,q⟩:=za4 om (λp z=>yab _ (yai _ z)) p2 q
    have mem:∀ q,q∈exL (prs σ (e2.set p none)++((V.ref p1,mp)::(pend a iv++((v,.fz m.d)::P))))->∃ F,Own y.X.K G1 H2 q.1 q.2 F:=λq z=>by
     rcases zjo (zjp (yad (l₁:=prs σ (e2.set p none))) z) with z | z | z
     ·exact ⟨F1,z▸w1⟩
     ·rw [show zoW (V.ref p1,mp).2=[] from zjt tm] at z
      exact nomatch z
     ·exact oth q z
    obtain ⟨F2,w2⟩:=mem _ ins
    obtain ⟨F3,w3⟩:=mem (v,.fz m.d) (ziR<|yag _ (yab _ (yag _ yaa)))
    cases w3 with
    | fz w3 =>
      refine hs.run G1 H2 p1 mp F1 iv mi F2 v m.d _ ex1 w1 w2 w3 (hs.mono _ _ _ _ _ (λm' q H' mo=>q σ H' hk ?_) q)
      have z:=(up _ _ mo _ _ w3).tail
      have z':Ok y.X.K H' σ (e2.set p none) ((.ref p1,m')::(pend a iv++((v,.fz m.d)::P))):=⟨om.1,z.perm yad.symm⟩
      have z2:=z'.give ev0
      rw [ybh] at z2
      exact (Ok.pops (P:=pend a iv) z2).pop
   ·exact q.elim
  ·exact q.elim) (λ_ _ q c d H' r o=>q σ c d H' hk r o) q⟩
 mono:=zsQ hs hi.mono h.mono
end
section
variable {X:Cx} {K:PySem.W.Frag}
theorem zsS:(16777216:Nat)=sizeLine:=sizeLine_eq.symm
theorem zhA {G H:Hp} {p:Addr} {ds:List D} {F:List Addr} (w:Own K G H (.ref p) (.lst ds) F):∃ vs,H p=some (.lst vs)/\Reps K G vs ds:=by
 cases w with
 | lst h r=>exact ⟨_,h,r⟩
theorem zys {G H:Hp} {v:V} {d:D} {F:List Addr} (w:Own K G H v (.fz d) F):Rep K G v d:=by
 cases w with
 | fz h=>exact h
def za8:OPM:=λm ms q=>one ms λa=>match m,a with
 | .lst ds,.fz d=>ds.length<16777216/\q .non (.lst (ds++[d]))
 | _,_=>False
theorem zaO:SndM K "list" rAppend za8 where
 run:=λG H p m F xs ms Q ex w ow q=>by
  obtain ⟨v,a,rfl,rfl,⟨F',w'⟩,q⟩:=zcx ow q
  split at q
  ·obtain ⟨vs,h,r⟩:=zhA w
   exact ⟨p,vs,v,rfl,rfl,h,by rw [r.length,← zsS]; exact q.1,q.2 _ _ .non (.lst (r.append (.one (zys w'))))⟩
  ·exact q.elim
 mono:=λa b q q' h k=>zbv (λm k=>by
  split at k
  ·exact ⟨k.1,h _ _ k.2⟩
  ·exact k.elim) k
theorem zrk (l:Addr) (items:Array Value) (n:Nat) (b:Addr) (items2:Array Value) (n2:Nat) (dd:Option Addr) (sl:Array (Option Value)) (hs0:¬(!items.isEmpty&&Builtin.List.listTooLong (items.size+items2.size))=true) (hs1:items.size<=sizeLine) (hs2:items.size+items2.size<=sizeLine+1) :
 Meets (Builtin.«list.extend» ⟨[.ref l,.ref b],[]⟩) (λ_ R s=>s.heap.get? l=some { cls:=.type "list",dict:=none,data:=.seq items n,slots:=#[] }/\s.heap.get? b=some { cls:=.type "tuple",dict:=dd,data:=.seq items2 n2,slots:=sl }/\R (.ok (.ret Value.none)) { s with heap:=s.heap.update l (Obj.mapSeq λx=>x++items2),toks:=s.toks }) :=
 .of_wp λprog w A R s h=>by
  obtain ⟨hp,g,d,tk,os⟩:=s
  obtain ⟨hl,hb,h⟩:=h
  have f1:=AutoSeq1.idx_int
  have f2:=AutoSeq1.sub_tuple_tuple
  have f3:=AutoSeq1.sub_list_list
  have f4:=AutoSeq1.sub_tuple_list
  have f5:=AutoSeq1.sub_list_tuple
  have hz':(items++items2).size<=sizeLine+1:=by rw [Array.size_append]; exact hs2
  wp_walk using (wpAny_updateSeq hl rfl (hz:=hs1) (_hz':=hz')),wpAny_loadPart' hl,wpAny_loadPart' hb
  exact ⟨_,rfl,h⟩
def zqb (K:PySem.W.Frag):V->List V->Hp->VK->Prop:=λx vs H Q=>rExtend x vs H Q\/∃ l b xs zs,x=.ref l/\vs=[.ref b]/\H l=some (.lst xs)/\SqT K H b zs/\xs.length+zs.length<=sizeLine/\Q .non (upd H l (.lst (xs++zs)))
theorem mt_extend:MtM X "list.extend" (zqb X.K):=by
 intro pins s σ H x vs v us Q I rx rv h
 rcases h with h | ⟨l,b,xs,zs,rfl,rfl,hH,hB,hz,q⟩
 ·exact L2.mt_extend pins s σ H x vs v us Q I rx rv h
 cases rx
 obtain ⟨u,rfl,ru⟩:=rv.one
 cases ru
 obtain ⟨z,its,n,r,hl,e⟩:=I.lstM hH
 obtain ⟨its2,r2,⟨⟨cls,dd,data,sl⟩,e2,hc,n2,hd⟩,_⟩:=I.tuple hB
 simp only at hc hd
 subst hc hd
 have k1:=r.length
 have k2:=r2.length
 have hsz:its.toArray.size+its2.toArray.size<=sizeLine:=by rw [yaW,yaW]; omega
 have hlong:¬ (!its.toArray.isEmpty&&Builtin.List.listTooLong (its.toArray.size+its2.toArray.size))=true:=by
  rw [notLongL hsz,Bool.and_false]
  exact yax
 refine call_meets F.slot_list_extend ⟨_,e,rfl⟩ F.entry_list_extend (F.args_list_extend_2 _ _)
  (zrk l its.toArray n b its2.toArray n2 dd sl hlong (by omega) (by omega)) ⟨e,e2,?_⟩
 refine ⟨.non,_,I.lset (its':=its++its2) hH e (by simp) (r.append r2) ?_,rfl,q⟩
 rw [yam]
 omega
def zgw:OPM:=λm ms q=>one ms λa=>match m with
 | .lst ds=>(match a.d with
   | .lst es=>ds.length+es.length<=16777216/\q .non (.lst (ds++es))
   | .tup es=>ds.length+es.length<=16777216/\q .non (.lst (ds++es))
   | _=>False)
 | _=>False
theorem zif:SndM K "list" (zqb K) zgw where
 run:=λG H p m F xs ms Q ex w ow q=>by
  obtain ⟨v,a,rfl,rfl,⟨F',w'⟩,q⟩:=zcx ow q
  split at q
  ·split at q
   ·rename_i es e
    obtain ⟨vs,h,r⟩:=zhA w
    obtain ⟨b,us,rfl,h2,r2⟩:=zbA ex w' e
    exact .inl ⟨p,b,vs,us,rfl,rfl,h,h2,by rw [r.length,r2.length,← zsS]; exact q.1,q.2 _ _ .non (.lst (r.append r2))⟩
   ·rename_i es e
    obtain ⟨vs,h,r⟩:=zhA w
    obtain ⟨b,us,rfl,h2,r2⟩:=zfx ex w' e
    exact .inr ⟨p,b,vs,us,rfl,rfl,h,h2.sqT,by rw [r.length,r2.length,← zsS]; exact q.1,q.2 _ _ .non (.lst (r.append r2))⟩
   ·exact q.elim
  ·exact q.elim
 mono:=λa b q q' h k=>zbv (λm k=>by
  split at k
  ·split at k
   ·exact ⟨k.1,h _ _ k.2⟩
   ·exact ⟨k.1,h _ _ k.2⟩
   ·exact k.elim
  ·exact k.elim) k
theorem zlq {G:Hp}:∀ {vs:List V} {ds:List D} (n:Nat),Reps K G vs ds->Reps K G (vs.eraseIdx n) (ds.eraseIdx n)
 | _,_,_,.nil=>.nil
 | _,_,0,.cons _ r=>r
 | _,_,n+1,.cons h r=>.cons h (zlq n r)
def opPop0:OPM:=λm ms q=>match ms with
 | []=>(match m with
   | .lst ds=>(match ds[ds.length-1]? with
     | some d=>q d (.lst ds.dropLast)
     | none=>False)
   | _=>False)
 | _=>False
def zhB:OPM:=λm ms q=>one ms λa=>match m with
 | .lst ds=>zdd a λi=>-(2 ^ 63)<=i/\i<2 ^ 63/\(match seqIndex? i ds.length with
   | some k=>(match ds[k]? with
     | some d=>q d (.lst (ds.eraseIdx k))
     | none=>False)
   | none=>False)
 | _=>False
theorem zhC:SndM K "list" rPopAt zhB where
 run:=λG H p m F xs ms Q ex w ow q=>by
  obtain ⟨v,a,rfl,rfl,w',q⟩:=zcx ow q
  split at q
  ·obtain ⟨i,rfl,q1,q2,q⟩:=za5 w' q
   split at q
   ·rename_i k ek
    split at q
    ·rename_i d e
     obtain ⟨vs,h,r⟩:=zhA w
     obtain ⟨u,ev,rv⟩:=r.at e
     exact ⟨p,vs,i,k,u,rfl,rfl,h,q1,q2,by rw [r.length]; exact ek,ev,q _ _ rv (.lst (zlq k r))⟩
    ·exact q.elim
   ·exact q.elim
  ·exact q.elim
 mono:=λa b q q' h k=>zbv (λm k=>by
  split at k
  ·refine zaT (λi k=>⟨k.1,k.2.1,?_⟩) k
   have k:=k.2.2
   split at k
   ·split at k
    ·exact h _ _ k
    ·exact k.elim
   ·exact k.elim
  ·exact k.elim) k
def zvK:M->M->D->(M->Prop)->Prop:=λm a d q=>match m with
 | .lst ds=>zdd a λi=>match ixN ds.length i with
   | some j=>q (.lst (ds.set j d))
   | none=>False
 | _=>False
def zvL:M->M->D->(M->Prop)->Prop:=λm a d q=>match m with
 | .dK kvs=>(match keyK a.d with
   | some k=>kvs.length<16777216/\q (.dK (setK kvs k d))
   | none=>False)
 | .dT kvs=>(match keyT a.d with
   | some k=>kvs.length<16777216/\q (.dT (setK kvs k d))
   | none=>False)
 | _=>False
def opSt:M->M->D->(M->Prop)->Prop:=λm a d q=>match m with
 | .lst ds=>zvK (.lst ds) a d q
 | m=>zvL m a d q
abbrev rSet:TSet:=λo i v H Q=>rSetL o i v H Q\/rSetD o i v H Q
theorem zqc (hu:X.A.units+64<cLine):PSet X rSet:=by
 intro pins s σ H o i v ov iv u Q I ro ri rv h
 rcases h with h | h
 ·exact set_list pins s σ H o i v ov iv u Q I ro ri rv h
 ·exact set_dict (by omega) pins s σ H o i v ov iv u Q I ro ri rv h
theorem zsT (a b:M) (d:D) (q q':M->Prop) (h:∀ m,q m->q' m) (k:opSt a b d q):opSt a b d q':=by
 unfold opSt zvK zvL at *
 split at k
 ·exact zaT (λi k=>by
   split at k
   ·exact h _ k
   ·exact k.elim) k
 ·split at k
  ·split at k
   ·exact ⟨k.1,h _ k.2⟩
   ·exact k.elim
  ·split at k
   ·exact ⟨k.1,h _ k.2⟩
   ·exact k.elim
  ·exact k.elim
theorem zxc:SndP K rSet opSt where
 run:=λG H p m F i mi F' v d Q ex w w' rv q=>by
  unfold opSt at q
  split at q
  ·unfold zvK at q
   obtain ⟨k,rfl,q⟩:=za5 ⟨F',w'⟩ q
   split at q
   ·rename_i j ej
    obtain ⟨vs,h,r⟩:=zhA w
    exact .inl ⟨p,vs,k,j,rfl,rfl,h,by rw [r.length]; exact ej,q _ (.lst (Reps.set rv j r))⟩
   ·exact q.elim
  ·unfold zvL at q
   split at q
   ·split at q
    ·rename_i k ek
     have hk:=zhy w' ek
     subst hk
     cases w with
     | dK h r=>exact .inr ⟨p,_,rfl,DPut.k h (by rw [r.length,← zsS]; exact q.1),q.2 _ (.dK (zp2 rv r))⟩
    ·exact q.elim
   ·split at q
    ·rename_i k ek
     obtain ⟨b,rfl,hb⟩:=zmc ex w' ek
     cases w with
     | dT h r=>exact .inr ⟨p,_,rfl,DPut.t h hb (by rw [r.length,← zsS]; exact q.1),q.2 _ (.dT (zvD rv r))⟩
    ·exact q.elim
   ·exact q.elim
 mono:=zsT
def zqd:M->OPN:=λm ms q=>one ms λa=>match m.d,a.d with
 | .str s,.lst ds=>∃ ts:List Str,ds=ts.map D.str/\(ts.map (·.length)).sum+ts.length*s.length<=16777216/\q (.fz (.str (Txt.join s ts)))
 | _,_=>False
theorem zvM:SndT K (λx xs H Q=>∃ a p,∃ ys:List Str,x=.str a/\xs=[.ref p]/\(SqL K H p (ys.map V.str)\/SqT K H p (ys.map V.str)) /\
 (ys.map (·.length)).sum+ys.length*a.length<=16777216/\Q (.str (Txt.join a ys)) H) zqd where
 run:=λG H x mx F xs ms Q ex w ow q=>by
  obtain ⟨v,a,rfl,rfl,⟨F',w'⟩,q⟩:=zcx ow q
  split at q
  ·rename_i s ds e1 e2
   obtain ⟨ts,rfl,h1,q⟩:=q
   have h2:=za6 (u:=.str s) w (by rw [e1]; rfl)
   subst h2
   obtain ⟨b,vs,rfl,h3,r3⟩:=zbA ex w' e2
   have:=r3.strs
   subst this
   exact ⟨s,b,ts,rfl,rfl,.inl (.of h3),h1,q _ _ (.same (.str _))⟩
  ·exact q.elim
 mono:=λa b q q' h k=>zbv (λm k=>by
  split at k
  ·obtain ⟨ts,e,h1,k⟩:=k
   exact ⟨ts,e,h1,h _ k⟩
  ·exact k.elim) k
def zvN:M->OPN:=λm ms q=>one ms λa=>match m.d,a.d with
 | .str s,.str t=>(match Builtin.Str.occurrences s t 0 s.length 1 with
   | i::_=>q (.fz (.int (i:Nat)))
   | []=>False)
 | _,_=>False
theorem zyt:SndT K (λx xs H Q=>∃ a b i rest,x=.str a/\xs=[.str b]/\Builtin.Str.occurrences a b 0 a.length 1=i::rest/\Q (.int (i:Nat)) H) zvN where
 run:=λG H x mx F xs ms Q ex w ow q=>by
  obtain ⟨v,a,rfl,rfl,⟨F',w'⟩,q⟩:=zcx ow q
  split at q
  ·rename_i s t e1 e2
   have h1:=za6 (u:=.str s) w (by rw [e1]; rfl)
   have h2:=za6 (u:=.str t) w' (by rw [e2]; rfl)
   subst h1 h2
   split at q
   ·rename_i i rest e
    exact ⟨s,t,i,rest,rfl,rfl,e,q _ _ (.same (.int _))⟩
   ·exact q.elim
  ·exact q.elim
 mono:=λa b q q' h k=>zbv (λm k=>by
  split at k
  ·split at k
   ·exact h _ k
   ·exact k.elim
  ·exact k.elim) k
end
section
variable {y:Y} {κ:List (Nat×V)} {pos:Pos}
theorem xv (i:Nat) {x:Str} (hN:y.X.N[i]?=some x:=by rfl) (hv:Vis y.X.env.scope x:=by first | exact .inl rfl | exact .inr (.inl rfl) | exact .inr (.inr rfl)) (hd:(x==("__debug__" : Str))=false:=by decide)
 (hcd:(x==("__classdict__" : Str))=false:=by decide):SE y (.Name x pos) (wVar i):=se_var hN hv hd hcd
theorem xp (i:Nat) {x:Str} (hN:y.X.N[i]?=some x:=by rfl) (hv:Vis y.X.env.scope x:=by first | exact .inl rfl | exact .inr (.inl rfl) | exact .inr (.inr rfl)) (hd:(x==("__debug__" : Str))=false:=by decide)
 (hcd:(x==("__classdict__" : Str))=false:=by decide):SO y (.Name x pos) (oPk i):=so_pk hN hv hd hcd
theorem xI {i:Int} {j:Nat}:SE y (.Constant (.int i) j pos) (wC (.int i)):=zhs pe_int λ_=>.int i
theorem xS {i:Str} {j:Nat}:SE y (.Constant (.str i) j pos) (wC (.str i)):=zhs pe_str λ_=>.str i
theorem xB {i:Bool} {j:Nat}:SE y (.Constant (.bool i) j pos) (wC (.bl i)):=zhs pe_bl λ_=>.bl i
theorem xN {j:Nat}:SE y (.Constant .none j pos) (wC .non):=zhs pe_non λ_=>.non
theorem xTy {x:Str} {n:String} (hm:y.X.mg x=none) (hv:bootBuiltins x=some (.type n)) (hg:Gl y.X x:=by rfl) (hn:x ≠ "__name__" := by decide) (hd:(x==("__debug__" : Str))=false:=by decide):SE y (.Name x pos) (wC (.ty n)) :=
 zhs (pe_bltn hg hm hv (v:=.ty n) rfl hn hd) λ_=>.ty n
variable {a b c e:Expr} {es:List Expr} {oa ob oc:WO} {wa wb:WE} {o o':CmpOp} {r r':R2} {op op':OP2} {ws:WA} {ta:WT}
theorem zaf {oo:WO} {w:WA} (h:SO y e oo) (hr:SA y es w) (hs:starEach (e::es) y.X.env=(false,eval e y.X.env)::starEach es y.X.env:=by rfl):SA y (e::es) (zae oo w):=zd4 h hr hs
theorem xcmp (o:CmpOp) (ho:OpR y.X (compareOp o) r) (hs:Snd2 y.X.K r op) (ha:SO y a oa) (hb:SO y b ob) (hm:behindInMarks o b=false:=by rfl):SE y (.Compare a [o] [b] pos) (w2 op oa ob):=se_cmp ho hs ha hb hm
theorem tcmp (o:CmpOp) (ho:OpR y.X (compareOp o) r) (hs:Snd2 y.X.K r op) (ha:SO y a oa) (hb:SO y b ob) (hm:behindInMarks o b=false:=by rfl):ST y (.Compare a [o] [b] pos) (tVal (w2 op oa ob)):=st_cmp ho hs ha hb hm
theorem tchn (o o':CmpOp) (ho:OpR y.X (compareOp o) r) (ho':OpR y.X (compareOp o') r') (hs:Snd2 y.X.K r op) (hs':Snd2 y.X.K r' op') (ha:SO y a oa) (hb:SO y b ob) (hc:SO y c oc) (hm:lastMarks [o,o'] [b,c]=false:=by rfl) :
 ST y (.Compare a [o,o'] [b,c] pos) (tVal (zlp op op' oa ob oc)):=zvI ho ho' hs hs' ha hb hc hm
theorem xix (ha:SO y a oa) (hb:SO y b ob) (hu:y.X.A.units+64<cLine) (hp:PlainIx b:=by exact λ_ _=>rfl):SE y (.Subscript a b pos) (w2 opIx oa ob):=se_ix (ix_all hu) snd_ix ha hb hp
theorem xsl {lo hi:Option Expr} {p2:Pos} {wl wh:WP} (ha:SO y a oa) (hl:SP' y lo wl) (hh:SP' y hi wh):SE y (.Subscript a (.Slice lo hi none p2) pos) (wSl opSl oa wl wh):=zvl sl_all snd_sl ha hl hh
theorem ttru (h:SO y e oa) (he:∀ whole,isTrue e y.X.env whole=(do let v ← whole; standAt e.pos; holding [v] (truthy v)):=by exact λ_=>rfl):ST y e (tTru oa):=st_tru h he
theorem xblt {id:String} {x:Str} {p:Pos} {rN:List V->Hp->VK->Prop} {oN:OPN} (hm:y.X.mg x=none) (hc:CallR y.X (.builtin id) rN) (hs:SndN y.X.K rN oN) (hv:bootBuiltins x=some (.builtin id)) (ha:SA y (e::es) ws) (hg:Gl y.X x:=by rfl)
 (hn:x ≠ "__name__" := by decide) (hdb:(x==("__debug__" : Str))=false:=by decide) (he:starEach (e::es) y.X.env=(false,eval e y.X.env)::starEach es y.X.env:=by rfl) (hpl:(backTo pos (starEach es y.X.env)).any (·.1)=false:=by rfl) :
 SE y (.Call (.Name x p) (e::es) [] pos) (wN oN ws):=zvk hc hs hg hm hv ha hn hdb he hpl
theorem xty {T:String} {x:Str} {p:Pos} {rN:List V->Hp->VK->Prop} {oN:OPN} (hm:y.X.mg x=none) (hc:CallR y.X (.type T) rN) (hs:SndN y.X.K rN oN) (hv:bootBuiltins x=some (.type T)) (ha:SA y (e::es) ws) (hg:Gl y.X x:=by rfl)
 (hn:x ≠ "__name__" := by decide) (hdb:(x==("__debug__" : Str))=false:=by decide) (he:starEach (e::es) y.X.env=(false,eval e y.X.env)::starEach es y.X.env:=by rfl) (hpl:(backTo pos (starEach es y.X.env)).any (·.1)=false:=by rfl) :
 SE y (.Call (.Name x p) (e::es) [] pos) (wN oN ws):=zsj hc hs hg hm hv ha hn hdb he hpl
theorem xm {T id:String} {name:Str} {x:Str} {opm:OPM} {rm:V->List V->Hp->VK->Prop} {px apos:Pos} (i:Nat) (pa:PlainAttrs T) (slot:Slot T name id) (hty:typeOf (.builtin id)=pure (.type "method_descriptor")) (hm:MtR y.X id rm) (hs:SndM y.X.K T rm opm) (ha:SA y (e::es) ws)
 (hN:y.X.N[i]?=some x:=by rfl) (hv:Vis y.X.env.scope x:=by first | exact .inl rfl | exact .inr (.inl rfl) | exact .inr (.inr rfl)) (hd:(x==("__debug__" : Str))=false:=by decide) (hcd:(x==("__classdict__" : Str))=false:=by decide)
 (c:zo5 y (.Name x px) name apos pos e es:=by exact ⟨rfl,rfl,rfl,rfl,rfl⟩):SE y (.Call (.Attribute (.Name x px) name apos) (e::es) [] pos) (wMut T opm i ws):=se_mut pa slot hty hm hs c hN hv hd hcd ha
theorem xmt {T id:String} {name:Str} {opt:M->OPN} {rm:V->List V->Hp->VK->Prop} {apos:Pos} (pa:PlainAttrs T) (slot:Slot T name id) (hty:typeOf (.builtin id)=pure (.type "method_descriptor")) (hm:MtR y.X id rm) (hs:SndT y.X.K rm opt) (ho:SO y a oa) (ha:SA y (e::es) ws)
 (c:zo5 y a name apos pos e es:=by exact ⟨rfl,rfl,rfl,rfl,rfl⟩):SE y (.Call (.Attribute a name apos) (e::es) [] pos) (wMt T opt oa ws):=se_mt pa slot hty hm hs c ho ha
def Cal (P:Program) (w:World) (K:PySem.W.Frag) (mg:Str->Option Value) (base:Heap) (xr:Xn->Value->Option Addr->Hp->Prop) (k:Nat) (x:Str) (fn:Fn):Prop :=
 zbm fn.sp/\∃ f fd ps,FnOk P w K mg base (L2.CX P w) k f fd ps (spOf K xr fn)/\mg x=some (.ref f)/\PySem.W.keepIn K (.ref f)=true/\Binds K fd ps []
theorem xc {x:Str} {k:Nat} {fn:Fn} {p:Pos} (F:Cal y.X.prog y.X.w y.X.K y.X.mg y.X.base y.xr k x fn) (hr:Room k y.X.A) (ha:SA y (e::es) ws)
 (tk:Takes y.X y.W:=by first | exact takes_of rfl rfl rfl rfl | exact takes0) (hg:Gl y.X x:=by rfl) (hdb:(x==("__debug__" : Str))=false:=by decide)
 (he:starEach (e::es) y.X.env=(false,eval e y.X.env)::starEach es y.X.env:=by rfl) (hpl:(backTo pos (starEach es y.X.env)).any (·.1)=false:=by rfl):SE y (.Call (.Name x p) (e::es) [] pos) (zaI fn ws):=by
 obtain ⟨hf,f,fd,ps,F,hm,hk,hb⟩:=F
 exact zx8 F hr hg hm hk hb (λσ=>passAt tk σ) hf ha hdb he hpl
theorem zqe {kp:List Nat} {vs:List V} {i:Nat} (h:kp.contains i=false):∀ p∈zbz kp vs,p.1≠i:=λp hp e=>by
 obtain ⟨j,hj,rfl⟩:=yan.mp hp
 have e:j=i:=e
 subst e
 have:=yce.mpr (ybk.mp hj).1
 rw [h] at this
 cases this
variable {bs cs:WS}
theorem yset (i:Nat) {x:Str} {pos':Pos} (h:SE y e wa) (nd:y.X.N.Nodup) (hi:y.X.N[i]?=some x:=by rfl) (hx:Loc y.X.env.scope x:=by first | exact .inl rfl | exact .inr rfl) (hs:swapsWith e (some (.Name x pos')) pos.line y.X.env=pure false:=by rfl)
 (hf:y.X.fn x=true\/y.X.env.scope.names.lookup x=some .local:=by first | exact .inl rfl | exact .inr rfl) (hκ:∀ p∈κ,p.1≠i:=by exact zqe rfl):SS y κ (.Assign [.Name x pos'] e pos) (sSet i wa):=ss_set nd hi hx h hs hf hκ
theorem yseq {st:Stmt} {rest:List Stmt} (h1:SS y κ st bs) (h2:SSs y κ rest cs):SSs y κ (st::rest) (sSeq bs cs):=zvm h1 h2
theorem yret (h:SO y e oa):SS y κ (.Return (some e) pos) (sRet oa):=ss_ret h
theorem yex (h:SE y e wa) (hs:swapsWith e none pos.line y.X.env=pure false:=by rfl):SS y κ (.Expr e pos) (zee wa):=zx7 h hs
theorem yif {xs ys:List Stmt} (h:ST y e ta) (ha:SSs y κ xs bs) (hb:SSs y κ ys cs):SS y κ (.If e xs ys pos) (sIf ta bs cs):=ss_if h ha hb
theorem gn (i:Nat) {x:Str} (nd:y.X.N.Nodup) (hi:y.X.N[i]?=some x:=by rfl) (hx:Loc y.X.env.scope x:=by first | exact .inl rfl | exact .inr rfl) (hf:y.X.fn x=true\/y.X.env.scope.names.lookup x=some .local:=by first | exact .inl rfl | exact .inr rfl) :
 PG y.X (.Name x pos) ((Tg.nm i).tg y.X.K):=pg_name nd hi hx hf
theorem gnil:PGs y.X [] (Tg.tgs y.X.K []):=pgs_nil
theorem za0 {t:Tg} {ts:List Tg} (h1:PG y.X e (t.tg y.X.K)) (h2:PGs y.X es (Tg.tgs y.X.K ts)) (hs:(assignEach (e::es) y.X.env).map (·.2)=assign e y.X.env::(assignEach es y.X.env).map (·.2):=by rfl):PGs y.X (e::es) (Tg.tgs y.X.K (t::ts)):=pgs_cons h1 h2 hs
theorem gtup {k:Nat} {ts:List Tg} (hc:y.X.calm=true) (h:PGs y.X es (Tg.tgs y.X.K ts)) (hn:(assignEach es y.X.env).length=ts.length:=by rfl) (hst:(assignEach es y.X.env).findIdx? (·.1)=none:=by rfl):PG y.X (.Tuple es k pos) ((Tg.tp ts).tg y.X.K):=pg_tup hc h hn hst
theorem zjY {kp:List Nat} {vs:List V} {l:List Nat} (h:l.all (λi => !kp.contains i)=true):∀ p∈zbz kp vs,p.1∉l:=λp hp hm=>by
 have:=yav.mp h _ hm
 exact zqe (i:=p.1) (by simpa using this) p hp rfl
theorem yasg {tg:Tg} {target:Expr} (h:SE y e wa) (hg:PG y.X target (tg.tg y.X.K)) (hs:swapsWithSole [target] e pos.line y.X.env=pure false:=by rfl) (hw:swappedStores [target] e y.X.env=pure none:=by rfl)
 (h1:(assignEach [target] y.X.env).map (·.2)=[assign target y.X.env]:=by rfl) (hκ:∀ p∈κ,p.1∉tg.slots:=by exact zjY rfl):SS y κ (.Assign [target] e pos) (sAsg tg wa):=ss_asg hg h hs hw h1 hκ
theorem yfor {tg:Tg} {target iter:Expr} {body:List Stmt} {wi:WI} (hp:PassesOwn (model y.X.prog y.X.w) y.X.A y.X.env y.X.xe) (hc:y.X.calm=true) (hi:SI y target iter wi) (hg:PG y.X target (tg.tg y.X.K)) (hb:SSs y κ body bs)
 (hs:∀ x,foldedSetIterable iter y.X.env x=pure x:=by exact λ_=>rfl) (hκ:∀ p∈κ,p.1∉tg.slots:=by exact zjY rfl) (htp:(isTp target && !tg.isTp)=false:=by rfl):SS y κ (.For target iter body [] pos) (sFor wi tg bs):=ss_for hp hc hi hg hb hs hκ htp
theorem znx {body:List Stmt} (hp:PassesOwn (model y.X.prog y.X.w) y.X.A y.X.env y.X.xe) (h:ST y e ta) (hb:SSs y κ body bs):SS y κ (.While e body [] pos) (zhv ta bs):=zvo hp h hb
theorem yst {x:Str} {px sp:Pos} {ix:Expr} {oi:WO} (p:Nat) (h:SE y e wa) (hi:SO y ix oi) (hu:y.X.A.units+64<cLine) (hN:y.X.N[p]?=some x:=by rfl) (hv:Vis y.X.env.scope x:=by first | exact .inl rfl | exact .inr (.inl rfl) | exact .inr (.inr rfl))
 (hd:(x==("__debug__" : Str))=false:=by decide) (hcd:(x==("__classdict__" : Str))=false:=by decide)
 (ha:∀ v,assign (.Subscript (.Name x px) ix sp) y.X.env v=(do
  let ov ← holding [v] (eval (.Name x px) y.X.env)
  let iv ← holding [v,ov] (eval ix y.X.env)
  standAt sp
  holding [v,ov,iv] (setItem ov iv v)
  release [v,ov,iv] []):=by exact λ_=>rfl)
 (hsw:swapsWithSole [.Subscript (.Name x px) ix sp] e pos.line y.X.env=pure false:=by rfl) (hw:swappedStores [.Subscript (.Name x px) ix sp] e y.X.env=pure none:=by rfl)
 (h1:(assignEach [.Subscript (.Name x px) ix sp] y.X.env).map (·.2)=[assign (.Subscript (.Name x px) ix sp) y.X.env]:=by rfl):SS y κ (.Assign [.Subscript (.Name x px) ix sp] e pos) (sSub opSt p oi wa):=ss_sub zxc (zqc hu) hN hv hd hcd hi h ha hsw hw h1
theorem xlc {elt tg iter:Expr} {ifs:List Expr} {scope:Scope} {wi:WI} {t:Tg} {tt:WT} {te:WE} (own:List (Str×Nat)) (ownS:List Nat) (hc:y.X.calm=true) (nd:y.X.N.Nodup) (hi:SI y tg iter wi) (ok:BlkOk y.X.N y.X.env.scope scope own)
 (hg:∀ s H C cl fp,PG (y.blk s H scope C cl fp).X tg (t.tg y.X.K)) (ht:∀ s H C cl fp,STs (y.blk s H scope C cl fp) ifs tt) (he:∀ s H C cl fp,SE (y.blk s H scope C cl fp) elt te)
 (hos:own.map (·.2)=ownS:=by rfl) (hs:∀ x,foldedSetIterable iter y.X.env x=pure x:=by exact λ_=>rfl) (ho:∀ i∈t.slots,i∈own.map (·.2):=by decide) (htp:(isTp tg && !t.isTp)=false:=by rfl):SE y (.ListComp elt [⟨tg,iter,ifs,0⟩] scope pos) (wLc wi t tt te ownS):=by
 subst hos
 let H0:Hp:=λ_=>none
 let s0:Shared:=y.X.s_0
 exact se_lc hc nd hi ok hg ht he hs ho (ht s0 H0 0 [] []).mono (he s0 H0 0 [] []).mono htp
theorem zsU {elt tg iter:Expr} {ifs:List Expr} {scope:Scope} {wi:WI} {t:Tg} {tt:WT} {te:WE} {x:Str} {py:Pos} {p2:Pos} (i:Nat) (own:List (Str×Nat)) (ownS:List Nat) (hc:y.X.calm=true) (nd:y.X.N.Nodup) (hi:SI y tg iter wi) (ok:BlkOk y.X.N y.X.env.scope scope own)
 (hg:∀ s H C cl fp,PG (y.blk s H scope C cl fp).X tg (t.tg y.X.K)) (ht:∀ s H C cl fp,STs (y.blk s H scope C cl fp) ifs tt) (he:∀ s H C cl fp,SE (y.blk s H scope C cl fp) elt te)
 (hy:y.X.N[i]?=some x:=by rfl) (hyl:y.X.env.scope.names.lookup x=some .local:=by rfl) (hsw:swapsWith (.ListComp elt [⟨tg,iter,ifs,0⟩] scope p2) (some (.Name x py)) pos.line y.X.env=pure true:=by rfl)
 (hos:own.map (·.2)=ownS:=by rfl) (hs:∀ x,foldedSetIterable iter y.X.env x=pure x:=by exact λ_=>rfl) (ho:∀ i∈t.slots,i∈own.map (·.2):=by decide) (hκ:∀ p∈κ,p.1≠i:=by exact zqe rfl) (htp:(isTp tg && !t.isTp)=false:=by rfl) :
 SS y κ (.Assign [.Name x py] (.ListComp elt [⟨tg,iter,ifs,0⟩] scope p2) pos) (sSet i (wLc wi t tt te ownS)):=by
 subst hos
 let H0:Hp:=λ_=>none
 let s0:Shared:=y.X.s_0
 exact zvp hc nd hy hyl hsw hi ok hg ht he hs ho (ht s0 H0 0 [] []).mono (he s0 H0 0 [] []).mono hκ htp
end
theorem zbX {P:Program} {w:World} {K:PySem.W.Frag} {mg:Str->Option Value} {base:Heap} {xr:Xn->Value->Option Addr->Hp->Prop} {x:Str} {st:Stmt} {f:Addr} {fd:FuncData} {N ps:List Str} {k:Nat} {kp:List Nat} {wb:WS} {sp:List M->(M->En->Prop)->(Xn->Prop)->Prop}
 (F:Fun K x x st f fd) (hm:mg x=some (.ref f)) (hb:Binds K fd ps []) (S:FnScope N ps (defScope st))
 (hb2:∀ cdv A outer s H E vs,vs.length=ps.length->Room k (A.deeper (envOfC x (defScope st) s.heap.objs.size f cdv))->SSs (yOf P w K mg base xr N x (defScope st) f cdv A outer s H E) (zbz kp vs) (defBody st) wb)
 (hf:zbm sp) (h:∀ ms Q X,ms.length=ps.length->sp ms Q X->wFn N.length ps.length kp wb ms Q X):Cal P w K mg base xr (k+1) x ⟨ps.length,kp,sp⟩ :=
 ⟨hf,f,fd,ps,(zvr F S hb2).imp λvs H Q E q=>by
  obtain ⟨hl,ms,R,hm,sp,q⟩:=q
  exact ⟨hl,ms,R,hm,sp,h _ _ _ (hm.trans hl) q⟩,hm,F.kp,hb⟩
section
variable {y:Y} {κ:List (Nat×V)} {pos p:Pos} {a b c tg:Expr} {oa ob oc:WO}
theorem xr1 (hm:y.X.mg "range" = none) (ha:SO y a oa) (hg:Gl y.X "range" := by rfl) (hs:starEach [a] y.X.env=[(false,eval a y.X.env)]:=by rfl):SI y tg (.Call (.Name "range" p) [a] [] pos) (iR1 oa):=zsp hg hm ha hs
theorem xr3 (hm:y.X.mg "range" = none) (ha:SO y a oa) (hb:SO y b ob) (hc:SO y c oc) (hg:Gl y.X "range" := by rfl) (hs:starEach [a,b,c] y.X.env=[(false,eval a y.X.env),(false,eval b y.X.env),(false,eval c y.X.env)]:=by rfl)
 (hs2:starEach [b,c] y.X.env=[(false,eval b y.X.env),(false,eval c y.X.env)]:=by rfl) (hs3:starEach [c] y.X.env=[(false,eval c y.X.env)]:=by rfl):SI y tg (.Call (.Name "range" p) [a,b,c] [] pos) (iR3 oa ob oc):=zsq hg hm ha hb hc hs hs2 hs3
end
def blkB (N:List Str) (sc scope:Scope) (own:List (Str×Nat)):Bool :=
 decide (scope.kind=.function)&&scope.names.all (λz=>decide (scope.names.lookup z.1=some z.2))&&own.all (λz=>decide (N[z.2]?=some z.1)) &&
 scope.names.all (λz=>decide (z.2≠.free)||decide (sc.names.lookup z.1=some .cell)||decide (sc.names.lookup z.1=some .free)) &&
 scope.names.all (λz => !(decide (z.2=.local)||decide (z.2=.cell))||(own.map (·.1)).contains z.1 || !N.contains z.1)
theorem zbY {N:List Str} {sc scope:Scope} {own:List (Str×Nat)} (h:blkB N sc scope own=true):BlkOk N sc scope own:=by
 unfold blkB at h
 rw [yas,yas,yas,yas] at h
 obtain ⟨⟨⟨⟨h1,h2⟩,h3⟩,h4⟩,h5⟩:=h
 rw [yav] at h2 h3 h4 h5
 refine ⟨yao h1,λz hz=>yao (h2 z hz),λz hz=>yao (h3 z hz),λz hz e => ?_,λz hz e => ?_⟩
 ·have:=h4 z hz
  rw [ybm,ybm] at this
  rcases this with (k | k) | k
  ·exact absurd e (yao k)
  ·exact .inl (yao k)
  ·exact .inr (yao k)
 ·have:=h5 z hz
  rw [ybm,ybm] at this
  rcases this with (k | k) | k
  ·rw [yb9,Bool.or_eq_false_iff] at k
   rcases e with e | e
   ·exact absurd e (yb3 k.1)
   ·exact absurd e (yb3 k.2)
  ·exact .inl (yce.mp k)
  ·refine .inr λhm => ?_
   rw [yce.mpr hm] at k
   cases k
def hasK (ks:List Key) (k:Key):Bool:=ks.any λx=>decide (x=k)
theorem zmk {ks:List Key} {k:Key}:hasK ks k=true↔k∈ks:=by
 unfold hasK
 rw [ycH]
 exact ⟨λ⟨x,hx,e⟩=>yao e▸hx,λh=>⟨k,h,yaf rfl⟩⟩
def addK (ks:List Key) (k:Key):List Key:=if hasK ks k=true then ks else ks++[k]
section
variable {P:Program} {w:World} {h h':Heap} {a:Addr} {ks:List Key}
theorem zvO (ks:List Key) (k:Key):(addK ks k).length<=ks.length+1:=by
 unfold addK
 split<;>simp
end
def dedK (ks:List Key):List Key:=ks.foldl addK []
section
variable {P:Program} {w:World} {A:Around} {E:Value->Shared->Prop} {s:Shared}
def bare (w:World):Obj:={ cls:=.type "set",dict:=none,data:=.set #[] 0 (.fresh 0 0 (!w.params.followText "set-order")) }
end
def wKl (ds:List D):WE:=λe Q _=>Q (.lst ds) e
theorem zqf {y:Y} {e:Expr} {w:WE} (ds:List D) (h:SE y e w) (i:∀ e (Q:M->En->Prop) X,Q (.lst ds) e->w e Q X:=by exact λ_ _ _ q=>q):SE y e (wKl ds) :=
 ⟨zbb h.run λσ H Q ⟨e,P,h0,q⟩=>⟨e,P,h0,i _ _ _ q⟩,λ_ _ _ _ _ hq _ q=>hq _ _ q⟩
def Sm:Nat->D->Prop
 | _,.non=>True
 | _,.bl _=>True
 | _,.int _=>True
 | _,.str s=>s.length<=1000/\PyData.strOk s=true
 | n+1,.tup ds=>ds.length<=1000/\∀ d∈ds,Sm n d
 | n+1,.lst ds=>ds.length<=1000/\∀ d∈ds,Sm n d
 | _,_=>False
theorem zny {n:Nat}:∀ {ds:List D},(∀ d∈ds,∃ p,d.py=some p/\p.depth<=n/\p.canLay0=true)->∃ ps,D.pys ds=some ps/\PyData.depthAll ps<=n/\PyData.canLayAll0 ps=true
 | [],_=>⟨[],rfl,ybd _,rfl⟩
 | d::ds,h=>by
   obtain ⟨p,e1,e2,e3⟩:=h d yaa
   obtain ⟨ps,f1,f2,f3⟩:=zny (ds:=ds) λd hd=>h d (yab _ hd)
   refine ⟨p::ps,?_,Nat.max_le.mpr ⟨e2,f2⟩,?_⟩
   ·unfold D.pys
    rw [e1,f1]
   ·unfold PyData.canLayAll0
    rw [e3,f3]
    rfl
theorem Sm.py:∀ {n:Nat} {d:D},Sm n d->∃ p,d.py=some p/\p.depth<=n/\p.canLay0=true
 | n,.non,_=>⟨.none,rfl,ybd _,rfl⟩
 | n,.bl b,_=>⟨.bool b,rfl,ybd _,rfl⟩
 | n,.int i,_=>⟨.int i,rfl,ybd _,rfl⟩
 | n,.str s,h=>⟨.str s,rfl,ybd _,by cases n<;>exact h.2⟩
 | n+1,.tup ds,h=>by
   obtain ⟨ps,f1,f2,f3⟩:=zny (n:=n) λd hd=>Sm.py (h.2 d hd)
   exact ⟨.tuple ps,by unfold D.py; rw [f1]; rfl,Nat.succ_le_succ f2,f3⟩
 | n+1,.lst ds,h=>by
   obtain ⟨ps,f1,f2,f3⟩:=zny (n:=n) λd hd=>Sm.py (h.2 d hd)
   exact ⟨.list ps,by unfold D.py; rw [f1]; rfl,Nat.succ_le_succ f2,f3⟩
 | 0,.tup _,h=>h.elim
 | 0,.lst _,h=>h.elim
 | 0,.scr _,h=>h.elim
 | n+1,.scr _,h=>h.elim
 | 0,.dK _,h=>h.elim
 | n+1,.dK _,h=>h.elim
 | 0,.dT _,h=>h.elim
 | n+1,.dT _,h=>h.elim
 | 0,.ty _,h=>h.elim
 | n+1,.ty _,h=>h.elim
 | 0,.att _ _,h=>h.elim
 | 0,.adr _,h=>h.elim
 | 0,.atx _ _ _,h=>h.elim
 | n+1,.att _ _,h=>h.elim
 | n+1,.adr _,h=>h.elim
 | n+1,.atx _ _ _,h=>h.elim
 | 0,.opq,h=>h.elim
 | n+1,.opq,h=>h.elim
theorem Sm.can {n:Nat} {d:D} (h:Sm n d) (hn:n<=60):canD d=true:=by
 obtain ⟨p,e,l,c⟩:=h.py
 unfold canD
 rw [e]
 show (p.canLay0&&decide (p.depth<=64))=true
 rw [c,yaf (by omega)]
 rfl
theorem zml {x y:D} (h:canD x=true) (h':canD y=true):eqOk x y=true:=by
 unfold eqOk
 split<;>first | rfl | (rw [h,h']; rfl)
theorem Sm.eqOk {n k:Nat} {x y:D} (h:Sm n x) (h':Sm k y) (hn:n<=60) (hk:k<=60):eqOk x y=true:=zml (h.can hn) (h'.can hk)
theorem Sm.ty {n:Nat} {d:D} (h:Sm n d):∃ t,tyNm d=some t:=by
 cases d<;>first
  | exact ⟨_,rfl⟩
  | (cases n<;>exact h.elim)
mutual
def NoB:PyData->Bool
 | .none=>true
 | .int _=>true
 | .str _=>true
 | .list xs=>NoBs xs
 | .tuple xs=>NoBs xs
 | _=>false
def NoBs:List PyData->Bool
 | []=>true
 | x::xs=>NoB x&&NoBs xs
end
mutual
theorem zmm:∀ {p q:PyData},NoB p=true->NoB q=true->(PyData.eqv p q=true↔p=q)
 | .none,q,_,h=>by cases q<;>first | (simp [PyData.eqv]; done) | cases h
 | .int i,q,_,h=>by cases q<;>first | (simp [PyData.eqv]; done) | cases h
 | .str i,q,_,h=>by cases q<;>first | (simp [PyData.eqv]; done) | cases h
 | .list xs,q,h',h=>by
   cases q<;>first
    | cases h; done
    | (simp [PyData.eqv]; done)
    | (rename_i ys
       unfold PyData.eqv
       rw [eqvs_same h' h]
       exact ⟨λe=>by rw [e],λe=>PyData.list.inj e⟩)
 | .tuple xs,q,h',h=>by
   cases q<;>first
    | cases h; done
    | (simp [PyData.eqv]; done)
    | (rename_i ys
       unfold PyData.eqv
       rw [eqvs_same h' h]
       exact ⟨λe=>by rw [e],λe=>PyData.tuple.inj e⟩)
 | .bool _,_,h,_=>by cases h
 | .dict _,_,h,_=>by cases h
theorem eqvs_same:∀ {p q:List PyData},NoBs p=true->NoBs q=true->(PyData.eqvAll p q=true↔p=q)
 | [],[],_,_=>by simp [PyData.eqvAll]
 | [],_::_,_,_=>by simp [PyData.eqvAll]
 | _::_,[],_,_=>by simp [PyData.eqvAll]
 | x::xs,y::ys,h,h'=>by
   unfold NoBs at h h'
   rw [yas] at h h'
   unfold PyData.eqvAll
   rw [yas,zmm h.1 h'.1,eqvs_same h.2 h'.2,List.cons.injEq]
end
mutual
theorem zsV:∀ {x y:D} {p:PyData},x.py=some p->y.py=some p->x=y
 | .non,y,p,h,h'=>by cases h; cases y<;>simp [D.py] at h'<;>rfl
 | .bl b,y,p,h,h'=>by cases h; cases y<;>simp_all [D.py]
 | .int b,y,p,h,h'=>by cases h; cases y<;>simp_all [D.py]
 | .str b,y,p,h,h'=>by cases h; cases y<;>simp_all [D.py]
 | .tup ds,y,p,h,h'=>by
   unfold D.py at h
   obtain ⟨ps,e,rfl⟩:=yaP.mp h
   cases y with
   | tup es =>
     unfold D.py at h'
     obtain ⟨qs,e',e2⟩:=yaP.mp h'
     cases e2
     rw [pys_inj e e']
   | _=>simp [D.py] at h'
 | .lst ds,y,p,h,h'=>by
   unfold D.py at h
   obtain ⟨ps,e,rfl⟩:=yaP.mp h
   cases y with
   | lst es =>
     unfold D.py at h'
     obtain ⟨qs,e',e2⟩:=yaP.mp h'
     cases e2
     rw [pys_inj e e']
   | _=>simp [D.py] at h'
 | .ty _,_,_,h,_=>by simp [D.py] at h
 | .opq,_,_,h,_=>by simp [D.py] at h
 | .scr _,_,_,h,_=>by simp [D.py] at h
 | .dK _,_,_,h,_=>by simp [D.py] at h
 | .dT _,_,_,h,_=>by simp [D.py] at h
theorem pys_inj:∀ {x y:List D} {p:List PyData},D.pys x=some p->D.pys y=some p->x=y
 | [],[],_,_,_=>rfl
 | [],y::ys,p,h,h'=>by
   cases h
   unfold D.pys at h'
   split at h'<;>simp at h'
 | x::xs,[],p,h,h'=>by
   cases h'
   unfold D.pys at h
   split at h<;>simp at h
 | x::xs,y::ys,p,h,h'=>by
   unfold D.pys at h h'
   split at h
   ·rename_i a as e1 e2
    cases h
    split at h'
    ·rename_i b bs f1 f2
     simp only [ycx,List.cons.injEq] at h'
     obtain ⟨g1,g2⟩:=h'
     subst g1 g2
     rw [zsV e1 f1,pys_inj e2 f2]
    ·cases h'
   ·cases h
end
def nob (d:D):Bool:=match d.py with
 | some p=>NoB p
 | none=>false
theorem zjZ {x y:D} (h:nob x=true) (h':nob y=true):eqD x y=true↔x=y:=by
 unfold nob at h h'
 split at h
 ·rename_i p e
  split at h'
  ·rename_i q e'
   unfold eqD
   rw [e,e']
   show PyData.eqv p q=true↔_
   rw [zmm h h']
   exact ⟨λz=>zsV e (z▸e'),λz=>yaT (e.symm.trans (z▸e'))⟩
  ·cases h'
 ·cases h
theorem zyu (s t:Str):eqD (.str s) (.str t)=decide (s=t):=by
 rw [ybT,zjZ rfl rfl,yaq]
 exact ⟨λh=>D.str.inj h,λh=>h▸rfl⟩
theorem zyv (s t:Int):eqD (.int s) (.int t)=decide (s=t):=by
 rw [ybT,zjZ rfl rfl,yaq]
 exact ⟨λh=>D.int.inj h,λh=>h▸rfl⟩
theorem Sm.mono:∀ {n k:Nat} {d:D},Sm n d->n<=k->Sm k d
 | n,k,.non,_,_=>by cases k<;>trivial
 | n,k,.bl b,_,_=>by cases k<;>trivial
 | n,k,.int b,_,_=>by cases k<;>trivial
 | n,k,.str b,h,_=>by cases n<;>cases k<;>exact h
 | n+1,k+1,.tup ds,h,l=>⟨h.1,λd hd=>(h.2 d hd).mono (Nat.le_of_succ_le_succ l)⟩
 | n+1,k+1,.lst ds,h,l=>⟨h.1,λd hd=>(h.2 d hd).mono (Nat.le_of_succ_le_succ l)⟩
 | 0,_,.tup _,h,_=>h.elim
 | 0,_,.lst _,h,_=>h.elim
 | n+1,0,.tup _,_,h=>absurd h (by omega)
 | n+1,0,.lst _,_,h=>absurd h (by omega)
 | 0,_,.scr _,h,_=>h.elim
 | n+1,_,.scr _,h,_=>h.elim
 | 0,_,.dK _,h,_=>h.elim
 | n+1,_,.dK _,h,_=>h.elim
 | 0,_,.dT _,h,_=>h.elim
 | n+1,_,.dT _,h,_=>h.elim
 | 0,_,.ty _,h,_=>h.elim
 | n+1,_,.ty _,h,_=>h.elim
 | 0,_,.att _ _,h,_=>h.elim
 | 0,_,.adr _,h,_=>h.elim
 | 0,_,.atx _ _ _,h,_=>h.elim
 | n+1,_,.att _ _,h,_=>h.elim
 | n+1,_,.adr _,h,_=>h.elim
 | n+1,_,.atx _ _ _,h,_=>h.elim
 | 0,_,.opq,h,_=>h.elim
 | n+1,_,.opq,h,_=>h.elim
theorem ze9 {n:Nat} (h:n<=1000):n<=sizeLine:=by rw [sizeLine_eq]; omega
theorem atI_0 {α:Type} (x:α) (xs:List α):atI (x::xs) 0=some x:=by simp [atI,ixN]
theorem atI_1 {α:Type} (x y:α) (xs:List α):atI (x::y::xs) 1=some y:=by
 have h:(1:Int)<(xs.length:Int)+1+1:=by omega
 simp [atI,ixN,h]
def smB:Nat->D->Bool
 | _,.non=>true
 | _,.bl _=>true
 | _,.int _=>true
 | _,.str s=>decide (s.length<=1000)&&PyData.strOk s
 | n+1,.tup ds=>decide (ds.length<=1000)&&ds.all (smB n)
 | n+1,.lst ds=>decide (ds.length<=1000)&&ds.all (smB n)
 | _,_=>false
theorem Sm.of:∀ {n:Nat} {d:D},smB n d=true->Sm n d
 | n,.non,_=>by cases n<;>trivial
 | n,.bl b,_=>by cases n<;>trivial
 | n,.int b,_=>by cases n<;>trivial
 | n,.str s,h=>by
   have g:(decide (s.length<=1000)&&PyData.strOk s)=true:=by cases n<;>exact h
   rw [yas,yaq] at g
   cases n<;>exact g
 | n+1,.tup ds,h=>by
   have h:(decide (ds.length<=1000)&&ds.all (smB n))=true:=h
   rw [yas,yaq,yav] at h
   exact ⟨h.1,λd hd=>Sm.of (h.2 d hd)⟩
 | n+1,.lst ds,h=>by
   have h:(decide (ds.length<=1000)&&ds.all (smB n))=true:=h
   rw [yas,yaq,yav] at h
   exact ⟨h.1,λd hd=>Sm.of (h.2 d hd)⟩
 | 0,.tup _,h=>by cases h
 | 0,.lst _,h=>by cases h
 | 0,.att _ _,h=>by cases h
 | 0,.adr _,h=>by cases h
 | 0,.atx _ _ _,h=>by cases h
 | n+1,.att _ _,h=>by cases h
 | n+1,.adr _,h=>by cases h
 | n+1,.atx _ _ _,h=>by cases h
 | 0,.scr _,h=>by cases h
 | n+1,.scr _,h=>by cases h
 | 0,.dK _,h=>by cases h
 | n+1,.dK _,h=>by cases h
 | 0,.dT _,h=>by cases h
 | n+1,.dT _,h=>by cases h
 | 0,.ty _,h=>by cases h
 | n+1,.ty _,h=>by cases h
 | 0,.opq,h=>by cases h
 | n+1,.opq,h=>by cases h
theorem zgx {α:Type} {xs:List α} {i:Int} (h0:0<=i) (h1:i<xs.length):∃ x,xs[i.toNat]?=some x/\atI xs i=some x:=by
 have hl:i.toNat<xs.length:=by omega
 refine ⟨xs[i.toNat],yak hl,?_⟩
 unfold atI ixN
 rw [yaw h0,yaw h1]
 exact yak hl
section
variable {e e1:En} {Q:M->En->Prop} {X:XQ} {QO:Opd->En->Prop} {QA:List Opd->En->Prop} {QT:Bool->En->Prop} {QP:Option Int->En->Prop} {QI:List D->En->Prop} {E:zd3} {w wa wb:WE} {o oa ob oc:WO} {a r:WA} {t u:WT} {R S:WS} {i:Nat} {m:M} {d:D}
def mutK (T:String) (op:OPM) (i:Nat) (Q:M->En->Prop) (as:List Opd) (e1:En):Prop:=match e1[i]? with
 | some (some m)=>isTy T m=true/\zbQ as (e1.set i none) λms=>op m ms λd m'=>Q (.fz d) (e1.set i (some m'))
 | _=>False
theorem e_Mut {T:String} {op:OPM} (h:e[i]?=some (some m)) (hT:isTy T m=true) (q:r e (λas e1=>mutK T op i Q as e1) X):wMut T op i r e Q X:=by
 unfold wMut
 rw [h]
 exact ⟨hT,q⟩
theorem e_mutK {T:String} {op:OPM} {as:List Opd} (h:e[i]?=some (some m)) (hT:isTy T m=true) (q:zbQ as (e.set i none) λms=>op m ms λd m'=>Q (.fz d) (e.set i (some m'))):mutK T op i Q as e:=by
 unfold mutK
 rw [h]
 exact ⟨hT,q⟩
end
def ltS (a b:Str):Bool:=decide (a.cps.toList<b.cps.toList)
def leS (a b:Str):Bool:=decide (a.cps.toList<=b.cps.toList)
theorem zyw {a b:Str} (h:a.cps.toList=b.cps.toList):a=b:=by
 cases a
 cases b
 rw [Str.mk.injEq]
 exact Array.toList_inj.mp h
theorem zmn (a b:Str):leS a b = !ltS b a:=by
 unfold leS ltS
 rw [← PySem.W.not_lt_str]
theorem znz (a b c:Str) (h:leS a b=true) (h':leS b c=true):leS a c=true :=
 yaf (List.le_trans (yao h) (yao h'))
theorem znA (a b:Str):(leS a b||leS b a)=true:=by
 rw [ybm]
 rcases List.le_total a.cps.toList b.cps.toList with h | h
 ·exact .inl (yaf h)
 ·exact .inr (yaf h)
theorem znB {a b c:Str} (h:ltS a b=true) (h':ltS b c=true):ltS a c=true:=yaf (List.lt_trans (yao h) (yao h'))
theorem zo6 (a:Str):ltS a a=false:=yaD (List.lt_irrefl _)
theorem zsW {a b:Str} (h:ltS a b=true):leS a b=true:=by
 rw [zmn]
 cases q:ltS b a with
 | false=>rfl
 | true=>exact absurd (znB h q) (by rw [zo6]; exact yax)
theorem zsX {a b:Str} (h:leS a b=true) (n:a≠b):ltS a b=true:=by
 cases q:ltS a b with
 | true=>rfl
 | false =>
   have h2:leS b a=true:=by rw [zmn,q]; rfl
   exact absurd (zyw (List.le_antisymm (yao h) (yao h2))) n
theorem zqg {ns:List Str}:ns.mergeSort leS=ns↔ns.Pairwise λa b=>leS a b=true:=by
 constructor
 ·intro h
  rw [← h]
  exact ycE znz znA ns
 ·exact List.mergeSort_of_pairwise
theorem zrl {ns:List Str}:(ns.Pairwise λa b=>ltS a b=true)↔(ns.Pairwise λa b=>leS a b=true)/\ns.Nodup:=by
 constructor
 ·intro h
  refine ⟨h.imp λh=>zsW h,h.imp λ{a b} h e => ?_⟩
  subst e
  rw [zo6] at h
  cases h
 ·rintro ⟨h1,h2⟩
  exact h1.imp₂ (λa b h n=>zsX h n) h2
theorem zgQ:∀ (ks acc:List Key),(acc++ks).Nodup->ks.foldl addK acc=acc++ks
 | [],acc,_=>by rw [yaQ]; rfl
 | k::ks,acc,h=>by
   have no:¬ hasK acc k=true:=λz=>by
    have:=zmk.mp z
    exact (ybg.mp h).2.2 k this k yaa rfl
   rw [yb4]
   have e:addK acc k=acc++[k]:=yaz no
   rw [e,zgQ ks (acc++[k]) (by rw [yae]; exact h),yae]
   rfl
theorem zrm {ks:List Key} {k:Key} (h:k∈ks):addK ks k=ks:=yaw (zmk.mpr h)
theorem zhD:∀ (ks acc:List Key),(ks.foldl addK acc).length=acc.length+ks.length->acc.Nodup->(acc++ks).Nodup
 | [],acc,_,h=>by rw [yaQ]; exact h
 | k::ks,acc,hl,h=>by
   rw [yb4,yaB] at hl
   have le:∀ (ks acc:List Key),(ks.foldl addK acc).length<=acc.length+ks.length:=by
    intro ks
    induction ks with
    | nil=>exact λ_=>yaj _
    | cons k ks ih =>
      intro acc
      have h1:=ih (addK acc k)
      have h2:=zvO acc k
      rw [yb4,yaB]
      omega
   have hk:k∉acc:=λz=>by
    rw [zrm z] at hl
    have:=le ks acc
    omega
   have e:addK acc k=acc++[k]:=yaz λz=>hk (zmk.mp z)
   rw [e] at hl
   have:=zhD ks (acc++[k]) (by rw [hl,yam]; show _=acc.length+1+_; omega) (by
    refine ybg.mpr ⟨h,by simp,λx hx y hy z => ?_⟩
    have:y=k:=by simpa using hy
    subst this
    subst z
    exact hk hx)
   rw [yae] at this
   exact this
theorem zfX {ks:List Key}:(dedK ks).length=ks.length↔ks.Nodup:=by
 constructor
 ·intro h
  have:=zhD ks [] (by rw [yba,ya4]; exact h) ycd
  exact this
 ·intro h
  have:dedK ks=[]++ks:=zgQ ks [] h
  rw [this]
  rfl
theorem zfj {ns:List Str}:(ns.map (Sum.inr:Str->Key)).Nodup↔ns.Nodup:=by
 unfold List.Nodup
 rw [yca]
 exact ⟨λh=>h.imp λh e=>h (ya8 _ e),λh=>h.imp λh e=>h (Sum.inr.inj e)⟩
section
variable {κ:Type} [DecidableEq κ]
theorem zqh {kvs:List (κ×D)} {k:κ} {v:D} (h:k∉kvs.map (·.1)):setK kvs k v=kvs++[(k,v)]:=by
 unfold setK
 rw [yaz]
 intro z
 rw [ycH] at z
 obtain ⟨kv,hm,e⟩:=z
 exact h (yan.mpr ⟨kv,hm,yao e⟩)
theorem zsY {kvs:List (κ×D)} {k:κ} (h:k∉kvs.map (·.1)):getK kvs k=none:=by
 unfold getK
 rw [yb5.mpr]
 ·rfl
 ·intro kv hm e
  exact h (yan.mpr ⟨kv,hm,yao e⟩)
theorem zmo:∀ {kvs:List (κ×D)} {k:κ} {v:D},(kvs.map (·.1)).Nodup->(k,v)∈kvs->getK kvs k=some v
 | (k',v')::kvs,k,v,nd,hm=>by
   rw [yaH,ya9] at nd
   by_cases e:k'=k
   ·subst e
    rcases yap.mp hm with e | hm
    ·cases e
     simp [getK,ybu]
    ·exact absurd (yan.mpr ⟨_,hm,rfl⟩) nd.1
   ·rcases yap.mp hm with e' | hm
    ·cases e'
     exact absurd rfl e
    ·have:=zmo nd.2 hm
     unfold getK at this ⊢
     rw [ybu]
     simp only [e,decide_false]
     exact this
theorem zo7 {kvs:List (κ×D)} {k:κ}:(getK kvs k).isSome=decide (k∈kvs.map (·.1)):=by
 by_cases h:k∈kvs.map (·.1)
 ·rw [yaf h]
  unfold getK
  rw [Option.isSome_map,List.find?_isSome]
  obtain ⟨kv,hm,e⟩:=yan.mp h
  exact ⟨kv,hm,yaf e⟩
 ·rw [yaD h,zsY h]
  rfl
end
theorem zlr:∀ (more kvs:List (Key×D)),((kvs++more).map (·.1)).Nodup->zhz kvs more=kvs++more
 | [],kvs,_=>(yaQ kvs).symm
 | (k,v)::more,kvs,nd=>by
   have h:k∉kvs.map (·.1):=by
    intro z
    rw [yaR,ybg] at nd
    exact nd.2.2 _ z k (yan.mpr ⟨(k,v),yaa,rfl⟩) rfl
   show zhz (setK kvs k v) more=_
   rw [zqh h,zlr more _ (by rw [yae]; exact nd),yae]
   rfl
theorem zrn {more:List (Key×D)} (nd:(more.map (·.1)).Nodup):zhz [] more=more:=by
 have:=zlr more [] (by rw [ybV]; exact nd)
 rw [this,ybV]
inductive R (α:Type) where
 | ok (a:α) | ex (x:Xn) | no
namespace R
variable {α β γ:Type}
def bind (r:R α) (f:α->R β):R β:=match r with
 | .ok a=>f a
 | .ex x=>.ex x
 | .no=>.no
def post (r:R α) (P:α->Prop) (X:Xn->Prop):Prop:=match r with
 | .ok a=>P a
 | .ex x=>X x
 | .no=>False
def calm (r:R α):R α:=match r with
 | .ok a=>.ok a
 | _=>.no
def need (c:Bool) (r:R α):R α:=if c=true then r else .no
def forN {σ:Type} (body:D->σ->(σ->R β)->R β) (after:σ->R β):List D->σ->R β
 | [],s=>after s
 | d::ds,s=>body d s λs=>forN body after ds s
def whileN {σ:Type} (body:σ->(σ->R β)->(σ->R β)->R β) (after:σ->R β):Nat->σ->R β
 | 0,_=>.no
 | n+1,s=>body s (λs=>whileN body after n s) after
@[irreducible] def most:Nat:=1000000
def lcM' (f:D->R D):List D->R (List D)
 | []=>.ok []
 | d::ds=>(f d).calm.bind λx=>(lcM' f ds).bind λxs=>.ok (x::xs)
def lcF' (f:D->R (Option D)):List D->R (List D)
 | []=>.ok []
 | d::ds=>(f d).calm.bind λx=>(lcF' f ds).bind λxs=>.ok (x.toList++xs)
def lcS' {σ:Type} (f:D->σ->R (D×σ)):List D->σ->R (List D×σ)
 | [],s=>.ok ([],s)
 | d::ds,s=>(f d s).calm.bind λp=>(lcS' f ds p.2).bind λq=>.ok (p.1::q.1,q.2)
def lcM (f:D->R D) (ds:List D):R (List D):=need (Nat.ble ds.length sizeLine) (lcM' f ds)
def lcF (f:D->R (Option D)) (ds:List D):R (List D):=need (Nat.ble ds.length sizeLine) (lcF' f ds)
def lcS {σ:Type} (f:D->σ->R (D×σ)) (ds:List D) (s:σ):R (List D×σ):=need (Nat.ble ds.length sizeLine) (lcS' f ds s)
section
variable {P:α->Prop} {Q:β->Prop} {X X':Xn->Prop} {r:R α} {f:α->R β}
theorem zbB:(r.bind f).post Q X=r.post (λa=>(f a).post Q X) X:=by cases r<;>rfl
theorem asc {g:β->R γ} {Q:γ->Prop} (h:((r.bind f).bind g).post Q X):(r.bind λx=>(f x).bind g).post Q X:=by cases r<;>exact h
theorem zay {P':α->Prop} (h:r.post P X) (i:∀ a,P a->P' a) (j:∀ x,X x->X' x):r.post P' X':=by
 cases r with
 | ok a=>exact i a h
 | ex x=>exact j x h
 | no=>exact h
@[simp] theorem zab {a:α}:(R.ok a).bind f=f a:=ybi rfl rfl
end
end R
open R
def intD:D->Option Int
 | .int i=>some i
 | _=>none
def nII (C:Int->Int->Prop) [∀ i j,Decidable (C i j)] (f:Int->Int->D) (a b:D):R D:=match a,b with
 | .int i,.int j=>need (decide (C i j)) (.ok (f i j))
 | _,_=>.no
instance (i j:Int):Decidable (CDiv i j):=inferInstanceAs (Decidable (_/\_))
instance (i j:Int):Decidable (CPow i j):=inferInstanceAs (Decidable (_/\_/\_))
instance (i j:Int):Decidable (CMul i j):=inferInstanceAs (Decidable (_\/_))
instance (i:Int):Decidable (rngB i):=inferInstanceAs (Decidable (_/\_))
def nSub (a b:D):R D:=match a,b with
 | .int i,.int j=>.ok (.int (i-j))
 | _,_=>.no
def nDiv:D->D->R D:=nII CDiv λi j=>.int (i / j)
def nMod (a b:D):R D:=match a,b with
 | .int i,.int j=>need (decide (0<j)) (.ok (.int (i % j)))
 | _,_=>.no
def nPow:D->D->R D:=nII CPow λi j=>.int (i ^ j.toNat)
def nNeg (a:D):R D:=match a with
 | .int i=>.ok (.int (-i))
 | _=>.no
def nAdd (a b:D):R M:=match a,b with
 | .int i,.int j=>.ok (.fz (.int (i+j)))
 | .str s,.str t=>need (Nat.ble (s.length+t.length) sizeLine) (.ok (.fz (.str (s++t))))
 | .tup s,.tup t=>need (Nat.ble (s.length+t.length) sizeLine) (.ok (.fz (.tup (s++t))))
 | .lst s,.lst t=>need (Nat.ble (s.length+t.length) sizeLine) (.ok (.lst (s++t)))
 | _,_=>.no
def nMul (a b:D):R M:=match a,b with
 | .int i,.int j=>need (decide (CMul i j)) (.ok (.fz (.int (i*j))))
 | .tup ds,.int k=>need (decide (1<=k)&&decide (k<=1000)&&decide (ds.length<=1000)) (.ok (.fz (.tup (repD ds k))))
 | .lst ds,.int k=>need (decide (-(2 ^ 63)<=k)&&decide (k<2 ^ 63)&&decide (ds.length*k.toNat<=sizeLine)) (.ok (.lst (repD ds k)))
 | _,_=>.no
def nEq (neg:Bool) (a b:D):R Bool:=need (eqOk a b) (.ok (if neg=true then !eqD a b else eqD a b))
def nOrd (o:Od) (a b:D):R Bool:=match a,b with
 | .int i,.int j=>.ok (o.int i j)
 | .str s,.str t=>.ok (o.ans (decide (s.cps.toList<t.cps.toList)) (decide (t.cps.toList<s.cps.toList)))
 | x,y=>need (zyg x y) (.ok (o.ans (ltD x y) (ltD y x)))
def opqD:D->Bool
 | .opq=>true
 | _=>false
def nIs (neg:Bool) (a b:D):R Bool:=match b with
 | .non=>need (!opqD a) (.ok (if neg=true then !zsD a else zsD a))
 | _=>.no
def nInS (neg:Bool) (x:D) (ds:List D):R Bool:=match zeV x,zeC ds with
 | some v,some vs=>.ok (xorB neg (inV v vs))
 | _,_=>match x.py,D.pys ds with
   | some p,some ps=>need (inOk p ps) (.ok (xorB neg (ps.any λz=>PyData.eqv z p)))
   | _,_=>.no
def nIn (neg:Bool) (a b:D):R Bool:=match b with
 | .str t=>match a with
   | .str s=>(match s.cps.toList with
     | [c]=>.ok (xorB neg (decide (c∈t.cps.toList)))
     | _=>.no)
   | _=>.no
 | .dK kvs=>match keyK a with
   | some k=>.ok (xorB neg (getK kvs k).isSome)
   | none=>.no
 | .dT kvs=>match keyT a with
   | some k=>.ok (xorB neg (getK kvs k).isSome)
   | none=>.no
 | .tup ds=>nInS neg a ds
 | .lst ds=>nInS neg a ds
 | _=>.no
def ofO {α:Type} (o:Option α):R α:=match o with
 | some a=>.ok a
 | none=>.no
def nIx (a b:D):R D:=match a with
 | .tup ds=>(ofO (intD b)).bind λi=>ofO (atI ds i)
 | .lst ds=>(ofO (intD b)).bind λi=>ofO (atI ds i)
 | .scr ns=>(ofO (intD b)).bind λi=>(ofO (atI ns i)).bind λn=>.ok (.int n)
 | .str s=>(ofO (intD b)).bind λi=>(ofO (atI s.cps.toList i)).bind λc=>need (Nat.ble s.length sizeLine) (.ok (sgn c))
 | .dK kvs=>(ofO (keyK b)).bind λk=>ofO (getK kvs k)
 | .dT kvs=>(ofO (keyT b)).bind λk=>ofO (getK kvs k)
 | _=>.no
def zxd:D->Bool
 | .str s=>Nat.ble s.length sizeLine
 | _=>true
def nLen (a:D):R D:=(ofO (lenD a)).bind λn=>need (zxd a) (.ok (.int n))
def nIsi (T:String) (a:D):R Bool:=(ofO (tyNm a)).bind λt=>need (zsL.contains T) (.ok (isiB t T))
def zcy (a:D):R D:=match a with
 | .lst ds=>.ok (.tup ds)
 | .tup ds=>.ok (.tup ds)
 | _=>.no
def zro (a:D):R (List D):=match a with
 | .lst ds=>.ok ds
 | .tup ds=>.ok ds
 | _=>.no
def zrp (a:D):R (List (Key×D)):=match a with
 | .tup ds=>(ofO (zgP ds)).bind λkvs=>.ok (zhz [] kvs)
 | .lst ds=>(ofO (zgP ds)).bind λkvs=>.ok (zhz [] kvs)
 | .dK kvs=>.ok kvs
 | _=>.no
def nSl (a:D) (lo hi:Option Int):R M:=match a with
 | .tup ds=>.ok (.fz (.tup (cutD ds lo hi)))
 | .lst ds=>.ok (.lst (cutD ds lo hi))
 | .str s=>need (Nat.ble s.length sizeLine) (.ok (.fz (.str (cutS s lo hi))))
 | _=>.no
def nInt (a:D):R Int:=ofO (intD a)
def zrq:List D->Option (List Str)
 | []=>some []
 | .str s::ds=>(zrq ds).map (s :: ·)
 | _::_=>none
def zrr (a b:D):R D:=match a,b with
 | .str s,.lst ds=>(ofO (zrq ds)).bind λts=>need (Nat.ble ((ts.map (·.length)).sum+ts.length*s.length) 16777216) (.ok (.str (Txt.join s ts)))
 | _,_=>.no
def nSIx (a b:D):R D:=match a,b with
 | .str s,.str t=>(match Builtin.Str.occurrences s t 0 s.length 1 with
   | i::_=>.ok (.int (i:Nat))
   | []=>.no)
 | _,_=>.no
def nStL (ds:List D) (a d:D):R (List D):=(ofO (intD a)).bind λi=>(ofO (ixN ds.length i)).bind λj=>.ok (ds.set j d)
def nStT (kvs:List (List Key×D)) (a d:D):R (List (List Key×D)):=(ofO (keyT a)).bind λk=>need (decide (kvs.length<16777216)) (.ok (setK kvs k d))
def nApp (ds:List D) (d:D):R (List D):=need (decide (ds.length<16777216)) (.ok (ds++[d]))
def nExt (ds:List D) (a:D):R (List D):=match a with
 | .lst es=>need (decide (ds.length+es.length<=16777216)) (.ok (ds++es))
 | .tup es=>need (decide (ds.length+es.length<=16777216)) (.ok (ds++es))
 | _=>.no
def nPop (ds:List D) (a:D):R (D×List D):=(ofO (intD a)).bind λi=>need (decide (-(2 ^ 63)<=i)&&decide (i<2 ^ 63)) ((ofO (seqIndex? i ds.length)).bind λk=>(ofO ds[k]?).bind λd=>.ok (d,ds.eraseIdx k))
def nTru (a:D):R Bool:=ofO (truD a)
def zcX (a:D):R (List D):=ofO (zno a)
@[irreducible] def nR1 (a:D):R (List D):=(ofO (intD a)).bind λj=>need (decide (rngB j)) (.ok (rngD 0 j.toNat))
@[irreducible] def nR3 (a b c:D):R (List D):=(ofO (intD a)).bind fun i=>(ofO (intD b)).bind fun j=>(ofO (intD c)).bind fun c =>
  need (decide (c≠0)&&decide (c.natAbs<1073741824)&&Builtin.Range.small i j c&&decide (0<=Builtin.Range.rangeSize i j c)) (.ok (rngC i c (Builtin.Range.rangeSize i j c).toNat))
def nUn2 (a:D):R (D×D):=match a with
 | .tup [a,b]=>.ok (a,b)
 | _=>.no
def nUn3 (a:D):R (D×D×D):=match a with
 | .tup [a,b,c]=>.ok (a,b,c)
 | _=>.no
end VW
namespace VW
open PySem PySem.Spec PyProof.Rows L2 R
section
variable {β:Type} {P:β->Prop} {XP:Xn->Prop} {k:M->Prop}
theorem za7 {α:Type} {c:Bool} {r:R α} {f:α->R β} (h:((need c r).bind f).post P XP):c=true/\(r.bind f).post P XP:=by
 unfold need at h
 split at h
 ·exact ⟨by assumption,h⟩
 ·exact h.elim
theorem zmp {α:Type} {o:Option α} {f:α->R β} (h:((ofO o).bind f).post P XP):∃ a,o=some a/\(f a).post P XP:=by
 unfold ofO at h
 split at h
 ·exact ⟨_,rfl,h⟩
 ·exact h.elim
theorem zbf {α γ:Type} {o:Option α} {g:α->R γ} {f:γ->R β} (h:(((ofO o).bind g).bind f).post P XP):∃ a,o=some a/\((g a).bind f).post P XP:=zmp (asc h)
theorem zo8 {m:M} {i:Int} (h:intD m.d=some i):m=.fz (.int i):=by
 unfold intD at h
 split at h
 ·rename_i e
  cases h
  cases m with
  | fz d=>exact ya8 M.fz e
  | _=>cases e
 ·cases h
theorem zdf {m:M} {i:Int} {k:Int->Prop} (h:intD m.d=some i) (q:k i):zdd m k:=by
 rw [zo8 h]
 exact q
theorem zfY {m:M} {i:Int} (h:m.d=.int i):m=.fz (.int i):=zo8 (by rw [h]; rfl)
theorem zyx {m:M} {i:Str} (h:m.d=.str i):m=.fz (.str i):=by
 cases m with
 | fz d=>exact ya8 M.fz h
 | _=>cases h
theorem zyy {m:M} {i:List D} (h:m.d=.tup i):m=.fz (.tup i):=by
 cases m with
 | fz d=>exact ya8 M.fz h
 | _=>cases h
theorem d_non {m:M} (h:m.d=.non):m=.fz .non:=by
 cases m with
 | fz d=>exact ya8 M.fz h
 | _=>cases h
variable {ma mb:M}
theorem znC {f:D->R β} (h:((nSub ma.d mb.d).bind f).post P XP) (q:∀ v,(f v).post P XP->k (.fz v)):zk5 ma mb k:=by
 unfold nSub at h
 split at h
 ·rename_i e1 e2
  rw [zfY e1,zfY e2]
  exact ⟨trivial,q _ h⟩
 ·exact h.elim
theorem k_II {C:Int->Int->Prop} [∀ i j,Decidable (C i j)] {g:Int->Int->D} {f:D->R β} (h:((nII C g ma.d mb.d).bind f).post P XP) (q:∀ v,(f v).post P XP->k (.fz v)):opII C g ma mb k:=by
 unfold nII at h
 split at h
 ·rename_i e1 e2
  obtain ⟨c,h⟩:=za7 h
  rw [zfY e1,zfY e2]
  exact ⟨yao c,q _ h⟩
 ·exact h.elim
theorem k_div {f:D->R β} (h:((nDiv ma.d mb.d).bind f).post P XP) (q:∀ v,(f v).post P XP->k (.fz v)):zyc ma mb k:=k_II h q
theorem k_pow {f:D->R β} (h:((nPow ma.d mb.d).bind f).post P XP) (q:∀ v,(f v).post P XP->k (.fz v)):zvx ma mb k:=k_II h q
theorem zrs {f:D->R β} (h:((nMod ma.d mb.d).bind f).post P XP) (q:∀ v,(f v).post P XP->k (.fz v)):zns ma mb k:=by
 unfold nMod at h
 split at h
 ·rename_i e1 e2
  obtain ⟨c,h⟩:=za7 h
  rw [zfY e1,zfY e2]
  exact ⟨yao c,q _ h⟩
 ·exact h.elim
theorem zsZ {f:D->R β} (h:((nNeg ma.d).bind f).post P XP) (q:∀ v,(f v).post P XP->k (.fz v)):zoZ ma k:=by
 unfold nNeg at h
 split at h
 ·rename_i e1
  rw [zfY e1]
  exact q _ h
 ·exact h.elim
theorem zs0 {x y:List D} (e1:ma.d=.lst x) (e2:mb.d=.lst y) (h:x.length+y.length<=sizeLine) (q:k (.lst (x++y))):zcb ma mb k:=by
 unfold zcb
 split
 ·cases e1
 ·cases e1
 ·cases e1
 ·unfold zlk
  try rw [e1,e2]
  exact ⟨h,q⟩
theorem zfa {f:M->R β} (h:((nAdd ma.d mb.d).bind f).post P XP) (q:∀ v,(f v).post P XP->k v):zcb ma mb k:=by
 unfold nAdd at h
 split at h
 ·rename_i e1 e2
  rw [zfY e1,zfY e2]
  exact q _ h
 ·rename_i e1 e2
  obtain ⟨c,h⟩:=za7 h
  rw [zyx e1,zyx e2]
  exact ⟨yaV c,q _ h⟩
 ·rename_i e1 e2
  obtain ⟨c,h⟩:=za7 h
  rw [zyy e1,zyy e2]
  exact ⟨yaV c,q _ h⟩
 ·rename_i e1 e2
  obtain ⟨c,h⟩:=za7 h
  exact zs0 e1 e2 (yaV c) (q _ h)
 ·exact h.elim
theorem zs1 {x:List D} {i:Int} (e1:ma.d=.lst x) (e2:mb.d=.int i) (h1:-(2 ^ 63)<=i) (h2:i<2 ^ 63) (h:x.length*i.toNat<=sizeLine) (q:k (.lst (repD x i))):ze8 ma mb k:=by
 unfold ze8
 split
 ·cases e1
 ·cases e1
 ·unfold zll
  try rw [e1,e2]
  exact ⟨h1,h2,h,q⟩
theorem zmq {f:M->R β} (h:((nMul ma.d mb.d).bind f).post P XP) (q:∀ v,(f v).post P XP->k v):ze8 ma mb k:=by
 unfold nMul at h
 split at h
 ·rename_i e1 e2
  obtain ⟨c,h⟩:=za7 h
  rw [zfY e1,zfY e2]
  exact ⟨yao c,q _ h⟩
 ·rename_i ds i e1 e2
  obtain ⟨c,h⟩:=za7 h
  simp only [yas,yaq] at c
  rw [zyy e1,zfY e2]
  exact ⟨c.1.1,c.1.2,c.2,q _ h⟩
 ·rename_i ds i e1 e2
  obtain ⟨c,h⟩:=za7 h
  simp only [yas,yaq] at c
  exact zs1 e1 e2 c.1.1 c.1.2 c.2 (q _ h)
 ·exact h.elim
theorem k_eq {neg:Bool} {f:Bool->R β} (h:((nEq neg ma.d mb.d).bind f).post P XP) (q:∀ v,(f v).post P XP->k (.fz (.bl v))):opEq neg ma mb k:=by
 unfold nEq at h
 obtain ⟨c,h⟩:=za7 h
 exact ⟨c,q _ h⟩
theorem zji {o:Od} {f:Bool->R β} (h:((nOrd o ma.d mb.d).bind f).post P XP) (q:∀ v,(f v).post P XP->k (.fz (.bl v))):zfW o ma mb k:=by
 unfold nOrd at h
 unfold zfW
 split at h
 ·rename_i e1 e2
  try rw [e1,e2]
  exact q _ h
 ·rename_i e1 e2
  try rw [e1,e2]
  exact q _ h
 ·rename_i x y n1 n2
  obtain ⟨c,h⟩:=za7 h
  first
  | exact ⟨c,q _ h⟩
  | split
    ·rename_i e1 e2
     exact (n1 _ _ e1 e2).elim
    ·rename_i e1 e2
     exact (n2 _ _ e1 e2).elim
    ·exact ⟨c,q _ h⟩
theorem k_is {neg:Bool} {f:Bool->R β} (h:((nIs neg ma.d mb.d).bind f).post P XP) (q:∀ v,(f v).post P XP->k (.fz (.bl v))):opIs neg ma mb k:=by
 unfold nIs at h
 split at h
 ·rename_i e
  obtain ⟨c,h⟩:=za7 h
  rw [d_non e]
  refine ⟨?_,q _ h⟩
  split
  ·rename_i e1
   rw [e1] at c
   cases c
  ·trivial
 ·exact h.elim
theorem k_inS {neg:Bool} {x:D} {ds:List D} {f:Bool->R β} (h:((nInS neg x ds).bind f).post P XP) (q:∀ v,(f v).post P XP->k (.fz (.bl v))):zmh neg x ds k:=by
 unfold nInS at h
 unfold zmh
 split at h
 ·rename_i e1 e2
  try rw [e1,e2]
  exact q _ h
 ·rename_i n1
  split at h
  ·rename_i e1 e2
   obtain ⟨c,h⟩:=za7 h
   first
   | exact ⟨c,q _ h⟩
   | split
     ·rename_i e3 e4
      exact (n1 _ _ e3 e4).elim
     ·try rw [e1,e2]
      exact ⟨c,q _ h⟩
  ·exact h.elim
theorem k_in {neg:Bool} {f:Bool->R β} (h:((nIn neg ma.d mb.d).bind f).post P XP) (q:∀ v,(f v).post P XP->k (.fz (.bl v))):opIn neg ma mb k:=by
 unfold nIn at h
 unfold opIn
 split at h
 ·rename_i e
  try rw [e]
  try dsimp only
  split at h
  ·rename_i e
   split at h
   ·rename_i e2
    try rw [e]
    try dsimp only
    try rw [e2]
    exact q _ h
   ·exact h.elim
  ·exact h.elim
 ·rename_i e
  try rw [e]
  try dsimp only
  split at h
  ·rename_i e
   try rw [e]
   exact q _ h
  ·exact h.elim
 ·rename_i e
  try rw [e]
  try dsimp only
  split at h
  ·rename_i e
   try rw [e]
   exact q _ h
  ·exact h.elim
 ·rename_i e
  try rw [e]
  exact k_inS h q
 ·rename_i e
  try rw [e]
  exact k_inS h q
 ·exact h.elim
theorem k_ix {f:D->R β} (h:((nIx ma.d mb.d).bind f).post P XP) (q:∀ v,(f v).post P XP->k (.fz v)):opIx ma mb k:=by
 unfold nIx at h
 unfold opIx
 split at h
 ·rename_i e
  try rw [e]
  obtain ⟨i,e1,h⟩:=zbf h
  obtain ⟨d,e2,h⟩:=zmp h
  refine zdf e1 ?_
  try rw [e2]
  exact q _ h
 ·rename_i e
  try rw [e]
  obtain ⟨i,e1,h⟩:=zbf h
  obtain ⟨d,e2,h⟩:=zmp h
  refine zdf e1 ?_
  try rw [e2]
  exact q _ h
 ·rename_i e
  try rw [e]
  obtain ⟨i,e1,h⟩:=zbf h
  obtain ⟨d,e2,h⟩:=zbf h
  refine zdf e1 ?_
  try rw [e2]
  exact q _ h
 ·rename_i e
  try rw [e]
  obtain ⟨i,e1,h⟩:=zbf h
  obtain ⟨d,e2,h⟩:=zbf h
  obtain ⟨c,h⟩:=za7 h
  refine zdf e1 ?_
  try rw [e2]
  exact ⟨yaV c,q _ h⟩
 ·rename_i e
  try rw [e]
  try dsimp only
  obtain ⟨i,e1,h⟩:=zbf h
  obtain ⟨d,e2,h⟩:=zmp h
  try rw [e1]
  try dsimp only
  try rw [e2]
  exact q _ h
 ·rename_i e
  try rw [e]
  try dsimp only
  obtain ⟨i,e1,h⟩:=zbf h
  obtain ⟨d,e2,h⟩:=zmp h
  try rw [e1]
  try dsimp only
  try rw [e2]
  exact q _ h
 ·exact h.elim
theorem zcz {f:D->R β} (h:((nLen ma.d).bind f).post P XP) (q:∀ v,(f v).post P XP->k (.fz v)):zcc [ma] k:=by
 unfold nLen at h
 unfold zcc one
 try dsimp only
 obtain ⟨n,e,h⟩:=zbf h
 obtain ⟨c,h⟩:=za7 h
 try rw [e]
 refine ⟨?_,q _ h⟩
 unfold zxd at c
 unfold lenOk
 split
 ·rename_i e
  rw [e] at c
  exact yaV c
 ·trivial
theorem zvP {T:String} {f:Bool->R β} (h:((nIsi T ma.d).bind f).post P XP) (q:∀ v,(f v).post P XP->k (.fz (.bl v))):zo2 [ma,.fz (.ty T)] k:=by
 unfold nIsi at h
 unfold zo2 two
 try dsimp only
 obtain ⟨n,e,h⟩:=zbf h
 obtain ⟨c,h⟩:=za7 h
 try rw [e]
 exact ⟨c,q _ h⟩
theorem zeD {f:D->R β} (h:((zcy ma.d).bind f).post P XP) (q:∀ v,(f v).post P XP->k (.fz v)):zde [ma] k:=by
 unfold zcy at h
 unfold zde one
 try dsimp only
 split at h
 ·rename_i e
  try rw [e]
  exact q _ h
 ·rename_i e
  try rw [e]
  exact q _ h
 ·exact h.elim
theorem zs2 {f:List D->R β} (h:((zro ma.d).bind f).post P XP) (q:∀ v,(f v).post P XP->k (.lst v)):zlo [ma] k:=by
 unfold zro at h
 unfold zlo one
 try dsimp only
 split at h
 ·rename_i e
  try rw [e]
  exact q _ h
 ·rename_i e
  try rw [e]
  exact q _ h
 ·exact h.elim
theorem k_dict {f:List (Key×D)->R β} (h:((zrp ma.d).bind f).post P XP) (q:∀ v,(f v).post P XP->k (.dK v)):zp9 [ma] k:=by
 unfold zrp at h
 unfold zp9 one
 try dsimp only
 split at h
 ·rename_i e
  try rw [e]
  try dsimp only
  obtain ⟨bs,e,h⟩:=zbf h
  try rw [e]
  exact q _ h
 ·rename_i e
  try rw [e]
  try dsimp only
  obtain ⟨bs,e,h⟩:=zbf h
  try rw [e]
  exact q _ h
 ·rename_i e
  try rw [e]
  exact q _ h
 ·exact h.elim
theorem k_sl {lo hi:Option Int} {f:M->R β} (h:((nSl ma.d lo hi).bind f).post P XP) (q:∀ v,(f v).post P XP->k v):opSl ma lo hi k:=by
 unfold nSl at h
 unfold opSl
 split at h
 ·rename_i e
  try rw [e]
  exact q _ h
 ·rename_i e
  try rw [e]
  exact q _ h
 ·rename_i e
  obtain ⟨c,h⟩:=za7 h
  try rw [e]
  exact ⟨yaV c,q _ h⟩
 ·exact h.elim
theorem zqi:∀ {ds:List D} {ts:List Str},zrq ds=some ts->ds=ts.map D.str
 | [],_,e=>by cases e; rfl
 | d::ds,ts,e=>by
   cases d<;>first
    | (unfold zrq at e
       obtain ⟨cs,e1,rfl⟩:=yaP.mp e
       rw [zqi e1]
       rfl)
    | (cases e; done)
theorem k_join {f:D->R β} (h:((zrr ma.d mb.d).bind f).post P XP) (q:∀ v,(f v).post P XP->k (.fz v)):zqd ma [mb] k:=by
 unfold zrr at h
 unfold zqd one
 try dsimp only
 split at h
 ·rename_i e1 e2
  try rw [e1,e2]
  obtain ⟨ts,e,h⟩:=zbf h
  obtain ⟨c,h⟩:=za7 h
  exact ⟨ts,zqi e,yaV c,q _ h⟩
 ·exact h.elim
theorem k_six {f:D->R β} (h:((nSIx ma.d mb.d).bind f).post P XP) (q:∀ v,(f v).post P XP->k (.fz v)):zvN ma [mb] k:=by
 unfold nSIx at h
 unfold zvN one
 try dsimp only
 split at h
 ·rename_i e1 e2
  try rw [e1,e2]
  try dsimp only
  split at h
  ·rename_i e
   try rw [e]
   exact q _ h
  ·exact h.elim
 ·exact h.elim
theorem zs3 {ds:List D} {d:D} {f:List D->R β} (h:((nStL ds mb.d d).bind f).post P XP) (q:∀ v,(f v).post P XP->k (.lst v)):opSt (.lst ds) mb d k:=by
 unfold nStL at h
 obtain ⟨i,e1,h⟩:=zbf h
 obtain ⟨j,e2,h⟩:=zbf h
 unfold opSt zvK
 refine zdf e1 ?_
 try rw [e2]
 exact q _ h
theorem k_stT {ds:List (List Key×D)} {d:D} {f:List (List Key×D)->R β} (h:((nStT ds mb.d d).bind f).post P XP) (q:∀ v,(f v).post P XP->k (.dT v)):opSt (.dT ds) mb d k:=by
 unfold nStT at h
 obtain ⟨i,e1,h⟩:=zbf h
 obtain ⟨c,h⟩:=za7 h
 unfold opSt zvL
 try dsimp only
 try rw [e1]
 exact ⟨yao c,q _ h⟩
variable {kk:D->M->Prop}
theorem zfZ {ds:List D} {d:D} {f:List D->R β} (h:((nApp ds d).bind f).post P XP) (q:∀ v,(f v).post P XP->kk .non (.lst v)):za8 (.lst ds) [.fz d] kk:=by
 unfold nApp at h
 obtain ⟨c,h⟩:=za7 h
 exact ⟨yao c,q _ h⟩
theorem zyz {ds:List D} {f:List D->R β} (h:((nExt ds ma.d).bind f).post P XP) (q:∀ v,(f v).post P XP->kk .non (.lst v)):zgw (.lst ds) [ma] kk:=by
 unfold nExt at h
 unfold zgw one
 try dsimp only
 split at h
 ·rename_i e
  obtain ⟨c,h⟩:=za7 h
  try rw [e]
  exact ⟨yao c,q _ h⟩
 ·rename_i e
  obtain ⟨c,h⟩:=za7 h
  try rw [e]
  exact ⟨yao c,q _ h⟩
 ·exact h.elim
theorem k_pop {ds:List D} {f:D×List D->R β} (h:((nPop ds ma.d).bind f).post P XP) (q:∀ v w,(f (v,w)).post P XP->kk v (.lst w)):zhB (.lst ds) [ma] kk:=by
 unfold nPop at h
 obtain ⟨i,e1,h⟩:=zbf h
 obtain ⟨c,h⟩:=za7 h
 obtain ⟨j,e2,h⟩:=zbf h
 obtain ⟨d,e3,h⟩:=zbf h
 simp only [yas,yaq] at c
 unfold zhB one
 try dsimp only
 refine zdf e1 ⟨c.1,c.2,?_⟩
 try rw [e2]
 try dsimp only
 rw [e3]
 exact q _ _ h
def truK (m:M) (QT:Bool->En->Prop) (e1:En):Prop:=match truD m.d with
 | some b=>QT b e1
 | none=>False
theorem k_tru {QT:Bool->En->Prop} {e1:En} {f:Bool->R β} (h:((nTru ma.d).bind f).post P XP) (q:∀ v,(f v).post P XP->QT v e1):truK ma QT e1:=by
 obtain ⟨i,e1,h⟩:=zmp h
 unfold truK
 try rw [e1]
 exact q _ h
variable {e:En} {QI:List D->En->Prop} {XX:XQ}
def itK (m:M) (QI:List D->En->Prop) (e1:En):Prop:=match zno m.d with
 | some ds=>QI ds e1
 | none=>False
theorem zcV {f:List D->R β} (h:((zcX ma.d).bind f).post P XP) (q:∀ v,(f v).post P XP->QI v e):itK ma QI e:=by
 obtain ⟨i,e1,h⟩:=zmp h
 unfold itK
 try rw [e1]
 exact q _ h
theorem k_r1 {f:List D->R β} (h:((nR1 ma.d).bind f).post P XP) (q:∀ v,(f v).post P XP->QI v e):zdd ma λj=>rngB j/\QI (rngD 0 j.toNat) e:=by
 unfold nR1 at h
 obtain ⟨i,e1,h⟩:=zbf h
 obtain ⟨c,h⟩:=za7 h
 exact zdf e1 ⟨yao c,q _ h⟩
theorem k_r3 {mc:M} {f:List D->R β} (h:((nR3 ma.d mb.d mc.d).bind f).post P XP) (q:∀ v,(f v).post P XP->QI v e):zdd ma λi=>zdd mb λj=>zdd mc λc=>∃ n,RgC i j c n/\QI (rngC i c n) e:=by
 unfold nR3 at h
 obtain ⟨i,e1,h⟩:=zbf h
 obtain ⟨j,e2,h⟩:=zbf h
 obtain ⟨l,e3,h⟩:=zbf h
 obtain ⟨c,h⟩:=za7 h
 simp only [yas,yaq] at c
 refine zdf e1 (zdf e2 (zdf e3 ⟨_,⟨c.1.1.1,c.1.1.2,c.1.2,?_⟩,q _ h⟩))
 exact (yb0 c.2).symm
end
namespace R
variable {α β:Type}
def orB (x:Bool) (b:R Bool):R Bool:=if x=true then .ok true else b
def andB (x:Bool) (b:R Bool):R Bool:=if x=true then b else .ok false
def forS {σ:Type} (body:D->σ->R σ):List D->σ->R σ
 | [],s=>.ok s
 | d::ds,s=>(body d s).bind (forS body ds)
def jn {σ:Type} (rest:σ->R β) (g:(σ->R β)->R β):R β:=g rest
@[simp] theorem zgR {x b:Bool}:orB x (.ok b)=.ok (x||b):=by cases x<;>rfl
@[simp] theorem zmr {x b:Bool}:andB x (.ok b)=.ok (x&&b):=by cases x<;>rfl
end R
section
variable {β:Type} {P:β->Prop} {XP:Xn->Prop}
variable {e e1:En} {Q:M->En->Prop} {X:XQ} {QO:Opd->En->Prop} {QA:List Opd->En->Prop} {QT:Bool->En->Prop} {QP:Option Int->En->Prop} {QI:List D->En->Prop} {E:zd3} {w wa wb:WE} {o oa ob oc:WO} {a r:WA} {t u:WT} {A B:WS} {i:Nat} {m:M} {d:D}
theorem k_c (q:Q (.fz d) e):wC d e Q X:=q
theorem k_kl {ds:List D} (q:Q (.lst ds) e):wKl ds e Q X:=q
theorem zms (h:e[i]?=some (some m)) (q:Q (.fz m.d) (e.set i (some (.fz m.d)))):wVar i e Q X:=by
 unfold wVar
 rw [h]
 exact q
theorem zam (h:e[i]?=some (some (.fz d))) (q:Q (.fz d) e):wVar i e Q X:=by
 unfold wVar
 rw [h]
 have hi:=(yal.mp h)
 have:e.set i (some (.fz d))=e:=by
  apply yaS
  intro j
  by_cases z:i=j
  ·subst z
   rw [yaM hi.1,h]
  ·rw [yaK z]
 show Q (.fz d) (e.set i (some (.fz d)))
 rw [this]
 exact q
theorem zag (q:w e (λm e1=>QO (.vl m) e1) X):oVal w e QO X:=q
theorem k_fz (q:w e (λm e1=>QO (.vl (.fz m.d)) e1) X):oFz w e QO X:=q
theorem k_pk (h:e[i]?=some (some m)) (q:QO (.pk i) e):oPk i e QO X:=by
 unfold oPk
 rw [h]
 exact q
theorem k_wv {k:M->Prop} (q:k m):zaS (.vl m) e k:=q
theorem k_wp {k:M->Prop} (h:e[i]?=some (some m)) (q:k m):zaS (.pk i) e k:=by
 unfold zaS
 try dsimp only
 rw [h]
 exact q
theorem k_an (q:QA [] e):aNil e QA X:=q
theorem k_ac (q:o e (λa e1=>r e1 (λas e2=>QA (a::as) e2) X) X):zae o r e QA X:=q
theorem zak {k:List M->Prop} (q:k []):zbQ [] e k:=q
theorem zao {as:List Opd} {k:List M->Prop} (q:zbQ as e λms=>k (m::ms)):zbQ (.vl m::as) e k:=q
theorem zbn {as:List Opd} {k:List M->Prop} (h:e[i]?=some (some m)) (q:zbQ as e λms=>k (m::ms)):zbQ (.pk i::as) e k:=by
 unfold zbQ
 exact k_wp h q
theorem k_w1 {op:OP1} (q:o e (λa e1=>zaS a e1 λma=>op ma λm=>Q m e1) X):w1 op o e Q X:=q
theorem k_w2 {op:OP2} (q:oa e (λa e1=>ob e1 (λb e2=>zaS a e2 λma=>zaS b e2 λmb=>op ma mb λm=>Q m e2) X) X):w2 op oa ob e Q X:=q
theorem k_wN {op:OPN} (q:a e (λas e1=>zbQ as e1 λms=>op ms λm=>Q m e1) X):wN op a e Q X:=q
theorem zmt {op:OPS} {lo hi:WP} (q:o e (λa e1=>lo e1 (λl e2=>hi e2 (λh e3=>zaS a e3 λma=>op ma l h λm=>Q m e3) X) X) X):wSl op o lo hi e Q X:=q
theorem zmu (q:QP none e):pNo e QP X:=q
def pintK (QP:Option Int->En->Prop) (m:M) (e1:En):Prop:=match m with
 | .fz (.int i)=>QP (some i) e1
 | _=>False
theorem zhE (q:w e (λm e1=>pintK QP m e1) X):pInt w e QP X:=q
theorem zhF {f:Int->R β} (h:((nInt m.d).bind f).post P XP) (q:∀ v,(f v).post P XP->QP (some v) e):pintK QP m e:=by
 obtain ⟨i,e1,h⟩:=zmp h
 rw [zo8 e1]
 exact q _ h
theorem k_wmt {T:String} {op:M->OPN} (q:o e (λa e1=>zaS a e1 (λm=>mTy T m.d=true)/\r e1 (λas e2=>zaS a e2 λm=>zbQ as e2 λms=>op m ms λr=>Q r e2) X) X):wMt T op o r e Q X:=q
theorem zce {k:M->Prop} {ms:List M} {ds:List D} (h:fzs ms=some ds) (hl:Nat.ble ds.length 4096=true) (q:k (.fz (.tup ds))):zbr ms k:=by
 unfold zbr dsl
 rw [h]
 try dsimp only
 rw [hl]
 exact q
theorem zcA {k:M->Prop} {ms:List M} {ds:List D} (h:fzs ms=some ds) (hl:Nat.ble ds.length 4096=true) (q:k (.lst ds)):zbR ms k:=by
 unfold zbR dsl
 rw [h]
 try dsimp only
 rw [hl]
 exact q
theorem k_dT (q:Q (.dT []) e):zx4 e Q X:=.inr q
def tvK (QT:Bool->En->Prop) (m:M) (e1:En):Prop:=match m with
 | .fz (.bl b)=>QT b e1
 | _=>False
theorem zaN (q:w e (λm e1=>tvK QT m e1) X):tVal w e QT X:=q
theorem j_tv {b:Bool} (q:QT b e):tvK QT (.fz (.bl b)) e:=q
theorem zgS (q:o e (λa e1=>zaS a e1 λm=>truK m QT e1) X):tTru o e QT X:=q
theorem zj0 (q:t e (λb e1=>QT (!b) e1) X):zl5 t e QT X:=q
def orK (QT:Bool->En->Prop) (u:WT) (X:XQ) (x:Bool) (e1:En):Prop:=if x=true then QT true e1 else u e1 QT X
def andK (QT:Bool->En->Prop) (u:WT) (X:XQ) (x:Bool) (e1:En):Prop:=if x=true then u e1 QT X else QT false e1
theorem zmv (q:t e (λb e1=>orK QT u X b e1) X):tOrW t u e QT X:=q
theorem zj1 (q:t e (λb e1=>andK QT u X b e1) X):zk4 t u e QT X:=q
variable {α:Type} {f:α->R β} {x:Bool} {a1 a2:R α}
theorem zvQ {A1 A2:R α} (h:((if x=true then A1 else A2).bind f).post P XP) {G1 G2:Prop} (h1:(A1.bind f).post P XP->G1) (h2:(A2.bind f).post P XP->G2):if x=true then G1 else G2:=by
 cases x
 ·exact h2 h
 ·exact h1 h
theorem zmw (mk:α->Bool) (en:α->En) (h:((if x=true then a1 else a2).bind f).post P XP) (h1:(∀ v,(f v).post P XP->QT (mk v) (en v))->(a1.bind f).post P XP->QT true e1)
 (h2:(∀ v,(f v).post P XP->QT (mk v) (en v))->(a2.bind f).post P XP->u e1 QT X) (J:∀ v,(f v).post P XP->QT (mk v) (en v)):orK QT u X x e1:=zvQ h (h1 J) (h2 J)
theorem zj2 (mk:α->Bool) (en:α->En) (h:((if x=true then a1 else a2).bind f).post P XP) (h1:(∀ v,(f v).post P XP->QT (mk v) (en v))->(a1.bind f).post P XP->u e1 QT X)
 (h2:(∀ v,(f v).post P XP->QT (mk v) (en v))->(a2.bind f).post P XP->QT false e1) (J:∀ v,(f v).post P XP->QT (mk v) (en v)):andK QT u X x e1:=zvQ h (h1 J) (h2 J)
def worK (Q:M->En->Prop) (w:WE) (X:XQ) (m:M) (e1:En):Prop:=match m with
 | .fz (.bl true)=>Q (.fz (.bl true)) e1
 | .fz (.bl false)=>w e1 Q X
 | _=>False
def wifK (Q:M->En->Prop) (wa wb:WE) (X:XQ) (c:Bool) (e1:En):Prop:=if c=true then wa e1 Q X else wb e1 Q X
theorem zyA (q:t e (λc e1=>wifK Q wa wb X c e1) X):wIf t wa wb e Q X:=q
theorem zyB (mk:α->M) (en:α->En) (h:((if x=true then a1 else a2).bind f).post P XP) (h1:(∀ v,(f v).post P XP->Q (mk v) (en v))->(a1.bind f).post P XP->wa e1 Q X)
 (h2:(∀ v,(f v).post P XP->Q (mk v) (en v))->(a2.bind f).post P XP->wb e1 Q X) (J:∀ v,(f v).post P XP->Q (mk v) (en v)):wifK Q wa wb X x e1:=zvQ h (h1 J) (h2 J)
def chK (Q:M->En->Prop) (q:Prop) (m:M) (e1:En):Prop:=match m with
 | .fz (.bl true)=>q
 | .fz (.bl false)=>Q (.fz (.bl false)) e1
 | _=>False
theorem zyC {op op':OP2} (q:oa e (λa e1=>ob e1 (λb e2=>zaS a e2 λma=>zaS b e2 λmb=>op ma mb λm=>chK Q (oc e2 (λc e3=>zaS b e3 λmb'=>zaS c e3 λmc=>op' mb' mc λm=>Q m e3) X) m e2) X) X):zlp op op' oa ob oc e Q X:=q
theorem zyD {q:Prop} (mk:α->M) (en:α->En) (h:((if x=true then a1 else a2).bind f).post P XP) (h1:(∀ v,(f v).post P XP->Q (mk v) (en v))->(a1.bind f).post P XP->q)
 (h2:(∀ v,(f v).post P XP->Q (mk v) (en v))->(a2.bind f).post P XP->Q (.fz (.bl false)) e1) (J:∀ v,(f v).post P XP->Q (mk v) (en v)):chK Q q (.fz (.bl x)) e1:=by
 cases x
 ·exact h2 J h
 ·exact h1 J h
theorem zas {fn:Fn} (q:r e (λas e1=>mvAs as e1 λms e2=>ms.length=fn.n/\fn.sp ms (λm ms'=>Q m (bkAs as ms' e2)) (λx=>X x e2)) X):zaI fn r e Q X:=q
theorem zaJ {k:List M->En->Prop} (q:k [] e):mvAs [] e k:=q
theorem zau {as:List Opd} {k:List M->En->Prop} (q:mvAs as e λms e'=>k (m::ms) e'):mvAs (.vl m::as) e k:=q
theorem zbj {as:List Opd} {k:List M->En->Prop} (h:e[i]?=some (some m)) (q:mvAs as (e.set i none) λms e'=>k (m::ms) e'):mvAs (.pk i::as) e k:=by
 unfold mvAs
 rw [h]
 exact q
theorem zaq {P':α->Prop} {X':Xn->Prop} {rr:R α} (h:(rr.bind f).post P XP) (q:∀ v,(f v).post P XP->P' v) (hx:∀ x,XP x->X' x):rr.post P' X':=by
 rw [zbB] at h
 exact zay h q hx
theorem zar (q:A { E with nx:=λe'=>B E e' } e):sSeq A B E e:=q
theorem zaP (q:w e (λm e1=>E.nx (e1.set i (some m))) E.ex):sSet i w E e:=q
theorem zcB (q:w e (λ_ e1=>E.nx e1) E.ex):zee w E e:=q
theorem k_nx (q:E.nx e):sNx E e:=q
theorem za1 (q:w e (λm e1=>E.rt m e1) E.ex):sRet (oVal w) E e:=q
theorem ziT (h:e[i]?=some (some m)) (q:E.rt m (e.set i none)):sRet (oPk i) E e:=by
 unfold sRet oPk
 try dsimp only
 rw [h]
 exact q
def sifK (A B:WS) (E:zd3) (c:Bool) (e1:En):Prop:=if c=true then A E e1 else B E e1
theorem zeT (q:t e (λc e1=>sifK A B E c e1) E.ex):sIf t A B E e:=q
theorem zfb {r1 r2:R β} (h:(if x=true then r1 else r2).post P XP) (h1:r1.post P XP->A E e1) (h2:r2.post P XP->B E e1):sifK A B E x e1:=by
 cases x
 ·exact h2 h
 ·exact h1 h
theorem j_sifJ {ι:Type} (en:α->ι->En) (h:((if x=true then a1 else a2).bind f).post P XP) (h1:(∀ v j,(f v).post P XP->E.nx (en v j))->(a1.bind f).post P XP->A E e1)
 (h2:(∀ v j,(f v).post P XP->E.nx (en v j))->(a2.bind f).post P XP->B E e1) (J:∀ v j,(f v).post P XP->E.nx (en v j)):sifK A B E x e1:=zvQ h (h1 J) (h2 J)
def asgK (t:Tg) (m:M) (e:En) (nx:En->Prop):Prop:=match t.asg m e with
 | some e2=>nx e2
 | none=>False
def zmx (ts:List Tg) (ds:List D) (e:En) (nx:En->Prop):Prop:=match Tg.asgs ts ds e with
 | some e2=>nx e2
 | none=>False
theorem zs4 {g:Tg} (q:w e (λm e1=>asgK g m e1 E.nx) E.ex):sAsg g w E e:=q
variable {nx:En->Prop}
theorem g_nm (q:nx (e.set i (some m))):asgK (.nm i) m e nx:=q
theorem zdB (q:nx e):zmx [] [] e nx:=q
theorem zaB {g:Tg} {gs:List Tg} {ds:List D} (q:asgK g (.fz d) e λe1=>zmx gs ds e1 nx):zmx (g::gs) (d::ds) e nx:=by
 unfold zmx Tg.asgs
 unfold asgK at q
 cases h:g.asg (.fz d) e with
 | none =>
   rw [h] at q
   exact q.elim
 | some e1 =>
   rw [h] at q
   exact q
theorem g_tup {gs:List Tg} {ds:List D} (h:m.d=.tup ds) (q:zmx gs ds e nx):asgK (.tp gs) m e nx:=by
 unfold asgK Tg.asg
 rw [h]
 exact q
theorem g_un2 {gs:List Tg} {f:D×D->R β} (h:((nUn2 m.d).bind f).post P XP) (q:∀ a b,(f (a,b)).post P XP->zmx gs [a,b] e nx):asgK (.tp gs) m e nx:=by
 unfold nUn2 at h
 split at h
 ·rename_i e1
  exact g_tup e1 (q _ _ h)
 ·exact h.elim
theorem g_un3 {gs:List Tg} {f:D×D×D->R β} (h:((nUn3 m.d).bind f).post P XP) (q:∀ a b c,(f (a,b,c)).post P XP->zmx gs [a,b,c] e nx):asgK (.tp gs) m e nx:=by
 unfold nUn3 at h
 split at h
 ·rename_i e1
  exact g_tup e1 (q _ _ _ h)
 ·exact h.elim
theorem zeE {T:String} {op:OPM} (h:e[i]?=some (some m)) (hT:isTy T m=true) (q:r e (λas e1=>mutK T op i Q as e1) X):wMut T op i r e Q X:=e_Mut h hT q
theorem zeF {T:String} {op:OPM} {as:List Opd} (h:e[i]?=some (some m)) (hT:isTy T m=true) (q:zbQ as (e.set i none) λms=>op m ms λd m'=>Q (.fz d) (e.set i (some m'))):mutK T op i Q as e:=e_mutK h hT q
variable {opp:M->M->D->(M->Prop)->Prop}
def subJ (opp:M->M->D->(M->Prop)->Prop) (p:Nat) (nx:En->Prop) (m:M) (a:Opd) (e2:En):Prop:=match e2[p]? with
 | some (some mp)=>isPl mp=true/\zaS a (e2.set p none) λmi=>opp mp mi m.d λmp'=>nx (e2.set p (some mp'))
 | _=>False
def subK (opp:M->M->D->(M->Prop)->Prop) (p:Nat) (oi:WO) (nx:En->Prop) (X:XQ) (m:M) (e1:En):Prop:=match e1[p]? with
 | some (some _)=>oi e1 (λa e2=>subJ opp p nx m a e2) X
 | _=>False
theorem znD (q:w e (λm e1=>subK opp i o E.nx E.ex m e1) E.ex):sSub opp i o w E e:=q
theorem znE {m0:M} (h:e[i]?=some (some m0)) (q:o e (λa e2=>subJ opp i nx m a e2) X):subK opp i o nx X m e:=by
 unfold subK
 rw [h]
 exact q
theorem znF {mp:M} {ao:Opd} (h:e[i]?=some (some mp)) (hp:isPl mp=true) (q:zaS ao (e.set i none) λmi=>opp mp mi m.d λmp'=>nx (e.set i (some mp'))):subJ opp i nx m ao e:=by
 unfold subJ
 rw [h]
 exact ⟨hp,q⟩
def sFrz (i:Nat):WS:=λE e=>match e[i]? with
 | some (some m)=>E.nx (e.set i (some (.fz m.d)))
 | _=>E.nx e
theorem k_frz (h:e[i]?=some (some m)) (q:E.nx (e.set i (some (.fz m.d)))):sFrz i E e:=by
 unfold sFrz
 rw [h]
 exact q
theorem zdy (q:w e (λm e1=>itK m QI e1) X):iSeq w e QI X:=q
theorem zig (q:o e (λa e1=>zaS a e1 λm=>zdd m λj=>rngB j/\QI (rngD 0 j.toNat) e1) X):iR1 o e QI X:=q
theorem k_ir3 (q:oa e (λa e1=>ob e1 (λb e2=>oc e2 (λc e3=>zaS a e3 λm=>zaS b e3 λm'=>zaS c e3 λm''=>zdd m λi=>zdd m' λj=>zdd m'' λc=>∃ n,RgC i j c n/\QI (rngC i c n) e3) X) X) X):iR3 oa ob oc e QI X:=q
theorem zfc {wi:WI} {g:Tg} (q:wi e (λds e1=>zda g A E ds e1) E.ex):sFor wi g A E e:=q
variable {σ ι:Type} {g:Tg}
theorem zj3 (emb:σ->ι->En) {body:D->σ->(σ->R β)->R β} {after:σ->R β}
 (hb:∀ d s j (N:En->Prop) (K:σ->R β),(∀ s' j',(K s').post P XP->N (emb s' j'))->(body d s K).post P XP->asgK g (.fz d) (emb s j) λe1=>A { nx:=N,rt:=E.rt,bk:=E.nx,ct:=N,ex:=E.ex } e1)
 (ha:∀ s j,(after s).post P XP->E.nx (emb s j)):∀ (ds:List D) (s:σ) (j:ι),(forN body after ds s).post P XP->zda g A E ds (emb s j)
 | [],s,j,h=>ha s j h
 | d::ds,s,j,h=>hb d s j (zda g A E ds) (λs=>forN body after ds s) (λs' j' h=>zj3 emb hb ha ds s' j' h) h
theorem zxe (emb:σ->ι->En) {body:D->σ->R σ} {S:σ->Prop}
 (hb:∀ d s j (N:En->Prop) (S:σ->Prop),(∀ s' j',S s'->N (emb s' j'))->(body d s).post S XP->asgK g (.fz d) (emb s j) λe1=>A { nx:=N,rt:=E.rt,bk:=E.nx,ct:=N,ex:=E.ex } e1)
 (ha:∀ s j,S s->E.nx (emb s j)):∀ (ds:List D) (s:σ) (j:ι),(forS body ds s).post S XP->zda g A E ds (emb s j)
 | [],s,j,h=>ha s j h
 | d::ds,s,j,h=>hb d s j (zda g A E ds) (λs=>(forS body ds s).post S XP) (λs' j' h=>zxe emb hb ha ds s' j' h) (by
   unfold forS at h
   rw [zbB] at h
   exact h)
theorem zcf {f:σ->R β} (emb:σ->ι->En) {body:D->σ->R σ}
 (hb:∀ d s j (N:En->Prop) (S:σ->Prop),(∀ s' j',S s'->N (emb s' j'))->(body d s).post S XP->asgK g (.fz d) (emb s j) λe1=>A { nx:=N,rt:=E.rt,bk:=E.nx,ct:=N,ex:=E.ex } e1)
 (ha:∀ s j,(f s).post P XP->E.nx (emb s j)) (ds:List D) (s:σ) (j:ι) (h:((forS body ds s).bind f).post P XP):zda g A E ds (emb s j):=by
 rw [zbB] at h
 exact zxe emb hb ha ds s j h
def whlK (A:WS) (E:zd3) (N:En->Prop) (c:Bool) (e1:En):Prop:=if c=true then A { nx:=N,rt:=E.rt,bk:=E.nx,ct:=N,ex:=E.ex } e1 else E.nx e1
theorem zvR (emb:σ->ι->En) {body:σ->(σ->R β)->(σ->R β)->R β} {after:σ->R β}
 (hb:∀ s j (N:En->Prop) (K:σ->R β),(∀ s' j',(K s').post P XP->N (emb s' j'))->(body s K after).post P XP->t (emb s j) (λc e1=>whlK A E N c e1) E.ex)
 (n:Nat) (s:σ) (j:ι) (h:(whileN body after n s).post P XP):zhv t A E (emb s j):=by
 refine ⟨λn e=>∃ s j,e=emb s j/\(whileN body after n s).post P XP,⟨n,s,j,rfl,h⟩,?_⟩
 rintro m _ ⟨s,j,rfl,h⟩
 cases m with
 | zero=>exact h.elim
 | succ m=>exact hb s j _ (λs=>whileN body after m s) (λs' j' h=>⟨m,ycI m,s',j',rfl,h⟩) h
def lcK (g:Tg) (tt:WT) (te:WE) (own:List Nat) (Q:M->En->Prop) (ds:List D) (e1:En):Prop:=ds.length<=sizeLine/\lcGo g tt te own ds [] (zbc e1 own) λacc e2=>Q (.lst acc) (zbd e1 own e2)
theorem k_lc {wi:WI} {g:Tg} {tt:WT} {te:WE} {own:List Nat} (q:wi e (λds e1=>lcK g tt te own Q ds e1) X):wLc wi g tt te own e Q X:=q
variable {te:WE} {tt:WT} {own:List Nat} {kk:List D->En->Prop}
theorem zj4 {rr:R α} {S:α->Prop} (h:rr.calm.post S XP):rr.post S λ_=>False:=by
 cases rr with
 | ok a=>exact h
 | _=>exact h.elim
theorem zxf {ff:D->R D} {e0:En} (hb:∀ d (S:D->Prop) (KK:M->En->Prop),(∀ m e3,zbc e3 own=e0->S m.d->KK m e3)->(ff d).post S (λ_=>False)->asgK g (.fz d) e0 λe1=>te e1 KK noX) :
 ∀ (ds acc:List D),(lcM' ff ds).post (λxs=>kk (acc++xs) e0) XP->lcGo g zd5 te own ds acc e0 kk
 | [],acc,h=>by
   have h:kk (acc++[]) e0:=h
   rw [yaQ] at h
   exact h
 | d::ds,acc,h=>by
   unfold lcM' at h
   rw [zbB] at h
   have z:=hb d _ (λm e3=>lcGo g zd5 te own ds (acc++[m.d]) (zbc e3 own) kk) (λm e3 hw h => ?_) (zj4 h)
   ·unfold asgK at z
    unfold lcGo
    split at z
    ·rename_i e1
     try rw [e1]
     exact z
    ·exact z.elim
   ·rw [hw]
    rw [zbB] at h
    refine zxf hb ds _ (zay h (λxs h => ?_) λ_ z=>z)
    rw [yae]
    exact h
theorem zg7 {ff:D->R D} {ds:List D} {f:List D->R β} (h:((lcM ff ds).bind f).post P XP) (hb:∀ d (S:D->Prop) (KK:M->En->Prop),(∀ m e3,zbc e3 own=zbc e own->S m.d->KK m e3)->(ff d).post S (λ_=>False)->asgK g (.fz d) (zbc e own) λe1=>te e1 KK noX)
 (q:∀ xs,(f xs).post P XP->Q (.lst xs) (zbd e own (zbc e own))):lcK g zd5 te own Q ds e:=by
 obtain ⟨c,h⟩:=za7 h
 rw [zbB] at h
 exact ⟨yaV c,zxf hb ds [] (zay h (λxs h=>q xs h) λ_ z=>z)⟩
theorem zs5 {ff:D->R (Option D)} {e0:En} (hb:∀ d (S:Option D->Prop) (KK:M->En->Prop) (K0:En->Prop),(∀ m e3,zbc e3 own=e0->S (some m.d)->KK m e3)->(∀ e3,zbc e3 own=e0->S none->K0 e3)->(ff d).post S (λ_=>False)->asgK g (.fz d) e0 λe1=>tt e1 (λb e2=>if b=true then te e2 KK noX else K0 e2) noX) :
 ∀ (ds acc:List D),(lcF' ff ds).post (λxs=>kk (acc++xs) e0) XP->lcGo g tt te own ds acc e0 kk
 | [],acc,h=>by
   have h:kk (acc++[]) e0:=h
   rw [yaQ] at h
   exact h
 | d::ds,acc,h=>by
   unfold lcF' at h
   rw [zbB] at h
   have z:=hb d _ (λm e3=>lcGo g tt te own ds (acc++[m.d]) (zbc e3 own) kk) (λe3=>lcGo g tt te own ds acc (zbc e3 own) kk) (λm e3 hw h => ?_) (λe3 hw h => ?_) (zj4 h)
   ·unfold asgK at z
    unfold lcGo
    split at z
    ·rename_i e1
     try rw [e1]
     exact z
    ·exact z.elim
   ·rw [hw]
    rw [zbB] at h
    refine zs5 hb ds _ (zay h (λxs h => ?_) λ_ z=>z)
    rw [yae]
    exact h
   ·rw [hw]
    rw [zbB] at h
    exact zs5 hb ds _ (zay h (λxs h=>h) λ_ z=>z)
theorem zo9 {ff:D->R (Option D)} {ds:List D} {f:List D->R β} (h:((lcF ff ds).bind f).post P XP) (hb:∀ d (S:Option D->Prop) (KK:M->En->Prop) (K0:En->Prop),(∀ m e3,zbc e3 own=zbc e own->S (some m.d)->KK m e3)->(∀ e3,zbc e3 own=zbc e own->S none->K0 e3)->(ff d).post S (λ_=>False)->asgK g (.fz d) (zbc e own) λe1=>tt e1 (λb e2=>if b=true then te e2 KK noX else K0 e2) noX)
 (q:∀ xs,(f xs).post P XP->Q (.lst xs) (zbd e own (zbc e own))):lcK g tt te own Q ds e:=by
 obtain ⟨c,h⟩:=za7 h
 rw [zbB] at h
 exact ⟨yaV c,zs5 hb ds [] (zay h (λxs h=>q xs h) λ_ z=>z)⟩
def lciK (te:WE) (KK:M->En->Prop) (K0:En->Prop) (c:Bool) (e2:En):Prop:=if c=true then te e2 KK noX else K0 e2
theorem zpa {KK:M->En->Prop} {K0:En->Prop} (q:tt e (λc e2=>lciK te KK K0 c e2) noX):tt e (λb e2=>if b=true then te e2 KK noX else K0 e2) noX:=q
theorem zpb {KK:M->En->Prop} {K0:En->Prop} {r1 r2:R β} (h:(if x=true then r1 else r2).post P XP) (h1:r1.post P XP->te e1 KK noX) (h2:r2.post P XP->K0 e1):lciK te KK K0 x e1:=by
 cases x
 ·exact h2 h
 ·exact h1 h
theorem zxg {ff:D->σ->R (D×σ)} {emb:σ->En} (hb:∀ d s (S:D×σ->Prop) (KK:M->En->Prop),(∀ m e3 s',zbc e3 own=emb s'->S (m.d,s')->KK m e3)->(ff d s).post S (λ_=>False)->asgK g (.fz d) (emb s) λe1=>te e1 KK noX) :
 ∀ (ds acc:List D) (s:σ),(lcS' ff ds s).post (λp=>kk (acc++p.1) (emb p.2)) XP->lcGo g zd5 te own ds acc (emb s) kk
 | [],acc,s,h=>by
   have h:kk (acc++[]) (emb s):=h
   rw [yaQ] at h
   exact h
 | d::ds,acc,s,h=>by
   unfold lcS' at h
   rw [zbB] at h
   have z:=hb d s _ (λm e3=>lcGo g zd5 te own ds (acc++[m.d]) (zbc e3 own) kk) (λm e3 s' hw h => ?_) (zj4 h)
   ·unfold asgK at z
    unfold lcGo
    split at z
    ·rename_i e1
     try rw [e1]
     exact z
    ·exact z.elim
   ·rw [hw]
    rw [zbB] at h
    refine zxg hb ds _ s' (zay h (λxs h => ?_) λ_ z=>z)
    rw [yae]
    exact h
theorem j_lcS {ff:D->σ->R (D×σ)} {ds:List D} {f:List D×σ->R β} (emb:σ->En) (s:σ) (hs:zbc e own=emb s) (h:((lcS ff ds s).bind f).post P XP) (hb:∀ d s (S:D×σ->Prop) (KK:M->En->Prop),(∀ m e3 s',zbc e3 own=emb s'->S (m.d,s')->KK m e3)->(ff d s).post S (λ_=>False)->asgK g (.fz d) (emb s) λe1=>te e1 KK noX)
 (q:∀ xs s',(f (xs,s')).post P XP->Q (.lst xs) (zbd e own (emb s'))):lcK g zd5 te own Q ds e:=by
 obtain ⟨c,h⟩:=za7 h
 rw [zbB] at h
 unfold lcK
 rw [hs]
 exact ⟨yaV c,zxg hb ds [] s (zay h (λp h=>q p.1 p.2 h) λ_ z=>z)⟩
end
section
variable {K:PySem.W.Frag} {H:Hp} {σ:L2.St} {e:En} {P:List (V×M)} {i:Nat} {m:M}
theorem Ok.frzAt (h:Ok K H σ e P) (he:e[i]?=some (some m)):Ok K H σ (e.set i (some (.fz m.d))) P:=by
 obtain ⟨v,e2,o⟩:=h.take he
 have o:=o.freeze
 have c:=Ok.give (i:=i) o e2
 rw [ybh] at c
 exact c
end
section
variable {y:Y} {κ:List (Nat×V)} {st:Stmt} {w:WS} {i:Nat}
theorem zvS:zhr (sFrz i):=λE E' e l q=>by
 unfold sFrz at *
 split at q
 ·exact l.nx _ q
 ·exact l.nx _ q
theorem yfrz (i:Nat) (h:SS y κ st w):SS y κ st (sSeq (sFrz i) w) where
 run:=zeB h.run λD σ H ⟨e,P,hk,h0,q⟩=>by
  unfold sSeq sFrz at q
  split at q
  ·rename_i m he
   exact ⟨_,P,hk,h0.frzAt he,q⟩
  ·exact ⟨e,P,hk,h0,q⟩
 mono:=zpX zvS h.mono
end
namespace R
end R
section
variable {β:Type} {P:β->Prop} {XP:Xn->Prop} {f:Bool->R β} {d:D} {Q:M->En->Prop} {w:WE} {X:XQ} {e1:En} {QT:Bool->En->Prop} {q:Prop}
theorem zhG {b:Bool} (q:QT b e1):truK (.fz (.bl b)) QT e1:=q
end
theorem zbk {N n:Nat} {kp:List Nat} {w:WS} {ms:List M} {Q:M->En->Prop} {X:Xn->Prop} {e0:En} (he:ms.map some++List.replicate (N-n) none=e0)
 (q:∀ E:zd3,(∀ m e',Q m (giv kp n e')->E.rt m e')->(∀ e',Q (.fz .non) (giv kp n e')->E.nx e')->(∀ x e',X x->E.ex x e')->w E e0):wFn N n kp w ms Q X:=by
 subst he
 exact q _ (λ_ _ h=>h) (λ_ h=>h) (λ_ _ h=>h)
section
variable {β:Type} {P:β->Prop} {XP:Xn->Prop} {kk:D->M->Prop} {ma:M}
theorem tl {α:Type} {P:α->Prop} {r:R α} (h:r.post P XP):(r.bind R.ok).post P XP:=by cases r<;>exact h
theorem znG {ds:List D} {f:D×List D->R β} (h:((nPop ds ma.d).bind f).post P XP) (q:∀ p,(f p).post P XP->kk p.1 (.lst p.2)):zhB (.lst ds) [ma] kk:=k_pop h λv w h=>q (v,w) h
variable {e e1:En} {Q:M->En->Prop} {E:zd3} {t:WT} {A B:WS} {x:Bool} {nx:En->Prop} {m:M}
theorem zbF {gs:List Tg} {f:D×D->R β} (h:((nUn2 m.d).bind f).post P XP) (q:∀ p,(f p).post P XP->zmx gs [p.1,p.2] e nx):asgK (.tp gs) m e nx:=g_un2 h λa b h=>q (a,b) h
theorem g_un3P {gs:List Tg} {f:D×D×D->R β} (h:((nUn3 m.d).bind f).post P XP) (q:∀ p,(f p).post P XP->zmx gs [p.1,p.2.1,p.2.2] e nx):asgK (.tp gs) m e nx:=g_un3 h λa b c h=>q (a,b,c) h
theorem zs6 {r1 r2:R β} {N:En->Prop} (h:(if x=true then r1 else r2).post P XP) (h1:r1.post P XP->A { nx:=N,rt:=E.rt,bk:=E.nx,ct:=N,ex:=E.ex } e1) (h2:r2.post P XP->E.nx e1):whlK A E N x e1:=by
 cases x
 ·exact h2 h
 ·exact h1 h
theorem zhH {σ ι:Type} (emb:σ->ι->En) {body:σ->(σ->R β)->(σ->R β)->R β} {after:σ->R β} (ha:∀ s j,(after s).post P XP->E.nx (emb s j))
 (hb:(∀ s j,(after s).post P XP->E.nx (emb s j))->∀ s j (N:En->Prop) (K:σ->R β),(∀ s' j',(K s').post P XP->N (emb s' j'))->(body s K after).post P XP->t (emb s j) (λc e1=>whlK A E N c e1) E.ex)
 (n:Nat) (s:σ) (j:ι) (h:(whileN body after n s).post P XP):zhv t A E (emb s j):=zvR emb (hb ha) n s j h
variable {te:WE} {own:List Nat} {g:Tg}
theorem zxh {σ:Type} {ff:D->σ->R (D×σ)} {ds:List D} {f:List D×σ->R β} (emb:σ->En) (s:σ) (hs:zbc e own=emb s) (h:((lcS ff ds s).bind f).post P XP) (hb:∀ d s (S:D×σ->Prop) (KK:M->En->Prop),(∀ m e3 s',zbc e3 own=emb s'->S (m.d,s')->KK m e3)->(ff d s).post S (λ_=>False)->asgK g (.fz d) (emb s) λe1=>te e1 KK noX)
 (q:∀ p,(f p).post P XP->Q (.lst p.1) (zbd e own (emb p.2))):lcK g zd5 te own Q ds e:=j_lcS emb s hs h hb λxs s' h=>q (xs,s') h
end
section
variable {P:Program} {w:World} {K:PySem.W.Frag} {mg:Str->Option Value} {base:Heap} {xr:Xn->Value->Option Addr->Hp->Prop}
theorem zd8 {x:Str} {st:Stmt} {f:Addr} {fd:FuncData} (F:FunD K x x (defArgs st) (defBody st) (defScope st) [] [] f fd):Fun K x x st f fd:=by
 obtain ⟨oc,od,dV,kV,doc,pm,an,cdv,ct,osl,rfl,lk,hcd,hD,hK⟩:=F.ex
 rcases hD with ⟨_,rfl⟩ | ⟨e,_⟩
 ·exact ⟨⟨oc,od,kV,doc,pm,an,cdv,ct,osl,rfl,lk,hcd⟩,F.kp⟩
 ·exact absurd rfl e
theorem Cal.up {k k':Nat} {x:Str} {fn:Fn} (h:Cal P w K mg base xr k x fn) (hk:k<=k'):Cal P w K mg base xr k' x fn:=by
 obtain ⟨hf,f,fd,ps,F,hm,hkp,hb⟩:=h
 exact ⟨hf,f,fd,ps,F.mono hk,hm,hkp,hb⟩
theorem zyE {x:Str} {st:Stmt} {f:Addr} {fd:FuncData} {N ps:List Str} {k:Nat} {kp:List Nat} {wb:WS} {sp:List M->(M->En->Prop)->(Xn->Prop)->Prop}
 (F:Fun K x x st f fd) (S:FnScope N ps (defScope st))
 (hb2:∀ cdv A outer s H E vs,vs.length=ps.length->Room k (A.deeper (envOfC x (defScope st) s.heap.objs.size f cdv))->SSs (yOf P w K mg base xr N x (defScope st) f cdv A outer s H E) (zbz kp vs) (defBody st) wb)
 (h:∀ ms Q X,ms.length=ps.length->sp ms Q X->wFn N.length ps.length kp wb ms Q X):FnOk P w K mg base (L2.CX P w) (k+1) f fd ps (spOf K xr ⟨ps.length,kp,sp⟩) :=
 (zvr F S hb2).imp λvs H Q E q=>by
  obtain ⟨hl,ms,R,hm,sp,q⟩:=q
  exact ⟨hl,ms,R,hm,sp,h _ _ _ (hm.trans hl) q⟩
theorem law_sp {sp:List M->(M->En->Prop)->(Xn->Prop)->Prop} (hsp:∀ ns:List Int,ns.length<=63->∀ (Q:M->En->Prop) X,Q (.fz (.bl true)) [none]->sp [.fz (.scr ns)] Q X)
 (H:Hp) (a:Addr) (ns:List Int) (hl:ns.length<=63) (hS:SqL K H a (ns.map V.int)):spOf K xr ⟨1,[],sp⟩ [.ref a] H (λv _=>v=.bl true) λ_ _ _=>False:=by
 refine ⟨rfl,[.fz (.scr ns)],[],rfl,?_,hsp ns hl _ _ λv H' hs => ?_⟩
 ·refine ⟨[],ycd,?_⟩
  have e:hid H []=H:=by
   funext b
   exact yaz ybb
  rw [e]
  exact .cons (F1:=[]) (F2:=[]) (.fz (.scr hS)) .nil
 ·obtain ⟨F,_,h⟩:=hs
  cases h with
  | cons w r =>
    cases w with
    | fz w =>
      cases w
      rfl
end
theorem walk_ofW {l:PySem.W.OpenLaw} {n k:Nat} {q:Program} {loose:List Str} {XP:(Str->Option Value)->Heap->Prop} {YP:World->Heap->Prop} {d:DefRec} {x:Str}
 (hn:l.most=some n) (hn2:n<=sizeLine) (hdf:d.params.defaults=[]) (hr:Room k callerA)
 (F:∀ (w:World) (mg:Str->Option Value) (fa:Addr) (h:Heap),YP w h->h.Ns mainGlobals mg->mg d.name=some (.ref fa) ->
  ∃ (K:PySem.W.Frag) (fd:FuncData) (sp:Sp),K.In h∧(∀ (s:Shared) (u:Value),BindsTo s fd ⟨[u],[]⟩ [(x,u)]) ∧
    (∀ (H:Hp) (a:Addr) (ns:List Int),ns.length<=n->Only H->SqL K H a (ns.map V.int)->sp [.ref a] H (λv _=>v=.bl true) λ_ _ _=>False) /\
    ∀ base:Heap,K.In base->base.Ns mainGlobals mg->FnOk l.prog w K mg base (L2.CX l.prog w) k fa fd [x] sp) :
 PySem.W.WalkO q loose XP YP l.row.toRowW d [] (λf vs=>PySem.call f vs):=by
 refine Att.attach_call hn hdf λw s₀ s₁ mg mb fa o pm cd doc a vs ns G Y ho hd hcd hmg hobj hints hlen hg => ?_
 obtain ⟨K,fd,sp,KX,hb,hsp,hF⟩:=F w mg fa _ Y G.T.g hmg
 refine law_call KX G.T.g G.T.b G.T.builtins G.T.nolimit hg hobj hints (ya7 hlen hn2) hr hF hb (λH hO hS=>hsp H a ns hlen hO hS) λH e s' h => ?_
 obtain ⟨_,_,_,_,_,_,_,_,_,_,_,_,h⟩:=h
 exact h
end VW
namespace VW
open PySem PySem.Spec PyProof.Rows L2
theorem Sep.fresh {K:PySem.W.Frag} {H:Hp} {L:List (V×M)} {p:Addr} {o:HO} (h:Sep K H L) (n:H p=none):Sep K (upd H p o) L:=by
 obtain ⟨F,nd,q⟩:=h
 refine ⟨F,nd,q.fresh n (.of λa u e => ?_)⟩
 by_cases z:a∈F
 ·rw [zfN z] at e
  cases e
 ·rw [zdc z] at e ⊢
  rw [upd_ne (ne_of_none e n)]
  exact e
theorem zjv {K:PySem.W.Frag} {H:Hp} {T:Addr} {x y:V} {d e:D} {L:List (V×M)} (n:H T=none) (h:Sep K H ((x,.fz d)::(y,.fz e)::L)):Gvn K true (upd H T (.tup [x,y])) (.ref T) (.tup [d,e]) L :=
 .inr ⟨rfl,T,[x,y],[d,e],rfl,rfl,.inl (.inl upd_same),rfl,h.fresh n⟩
def seqD:D->Option (List D)
 | .tup ds=>some ds
 | .lst ds=>some ds
 | _=>none
def enD (ds:List D):List D:=ds.mapIdx λi d=>.tup [.int (i:Nat),d]
def Iet (K:PySem.W.Frag) (a:Addr) (n:Nat):It where
 go:=λi H=>∃ (l:List V) (x:V),SqT K H a l/\l.length=n/\l[i]?=some x
 yld:=λi H v H2=>∃ T x,v=.ref T/\H T=none/\H2=upd H T (.tup [.int (i:Nat),x])/\∀ l,SqT K H a l->l[i]?=some x
 stop:=λi H=>∃ l:List V,SqT K H a l/\l.length=n/\n<=i
theorem sep_at {K:PySem.W.Frag} {H:Hp} {i:Nat} {a:Addr} {ds:List D} {d:D} {L:List (V×M)} (h:Sep K H ((.ref a,.fz (.tup ds))::L)) (e:ds[i]?=some d) :
 (∃ l x,SqT K H a l/\l.length=ds.length/\l[i]?=some x)/\∀ x,(∀ l,SqT K H a l->l[i]?=some x)->Sep K H ((x,.fz d)::(.ref a,.fz (.tup ds))::L):=by
 obtain ⟨G,ex,r,_⟩:=zeU h
 cases r with
 | tup hs rs =>
   obtain ⟨v,hv,_⟩:=rs.at e
   refine ⟨⟨_,v,(hs.mono ex).sqT,rs.length,hv⟩,λx hx=>zjs h λG' ex' r' => ?_⟩
   cases r' with
   | tup hs' rs' =>
     obtain ⟨v',hv',rv'⟩:=rs'.at e
     have z:=hx _ (hs'.mono ex').sqT
     rw [hv'] at z
     cases z
     exact rv'
theorem zyF {K:PySem.W.Frag} {H:Hp} {i:Nat} {a:Addr} {ds:List D} {d:D} {L:List (V×M)} (h:Sep K H ((.ref a,.fz (.lst ds))::L)) (e:ds[i]?=some d) :
 (∃ l x,SqL K H a l/\l[i]?=some x)/\∀ x,(∀ l,SqL K H a l->l[i]?=some x)->Sep K H ((x,.fz d)::(.ref a,.fz (.lst ds))::L):=by
 obtain ⟨G,ex,r,_⟩:=zeU h
 cases r with
 | lst hs rs =>
   obtain ⟨v,hv,_⟩:=rs.at e
   refine ⟨⟨_,v,SqL.of (ex.keep hs),hv⟩,λx hx=>zjs h λG' ex' r' => ?_⟩
   cases r' with
   | lst hs' rs' =>
     obtain ⟨v',hv',rv'⟩:=rs'.at e
     have z:=hx _ (SqL.of (ex'.keep hs'))
     rw [hv'] at z
     cases z
     exact rv'
theorem zs7 {ds:List D} {i:Nat} {d:D} (e:(enD ds)[i]?=some d):∃ x,ds[i]?=some x/\d=.tup [.int (i:Nat),x]:=by
 unfold enD at e
 rw [List.getElem?_mapIdx] at e
 cases q:ds[i]? with
 | none=>rw [q] at e; cases e
 | some x =>
   rw [q] at e
   cases e
   exact ⟨x,rfl,rfl⟩
theorem zih {ds:List D}:(enD ds).length=ds.length:=List.length_mapIdx
theorem zj5 {K:PySem.W.Frag} {a:Addr} {ds:List D}:Walks K true (Iet K a ds.length) (enD ds) [(.ref a,.fz (.tup ds))] where
 go:=λi H L d h e=>by
  have h:Sep K H ((.ref a,.fz (.tup ds))::L):=h
  obtain ⟨u,hu,rfl⟩:=zs7 e
  obtain ⟨g1,g2⟩:=sep_at h hu
  refine ⟨g1,λv H2 yl => ?_⟩
  obtain ⟨T,x,rfl,hn,rfl,hx⟩:=yl
  exact zjv hn (zib (g2 x hx) λ_=>.int _)
 stop:=λi H L h hl=>by
  have h:Sep K H ((.ref a,.fz (.tup ds))::L):=h
  rw [zih] at hl
  obtain ⟨G,ex,r,_⟩:=zeU h
  cases r with
  | tup hs rs=>exact ⟨_,(hs.mono ex).sqT,rs.length,hl⟩
theorem zj6 {K:PySem.W.Frag} {a:Addr} {ds:List D}:Walks K true (Ite K a) (enD ds) [(.ref a,.fz (.lst ds))] where
 go:=λi H L d h e=>by
  have h:Sep K H ((.ref a,.fz (.lst ds))::L):=h
  obtain ⟨u,hu,rfl⟩:=zs7 e
  obtain ⟨g1,g2⟩:=zyF h hu
  refine ⟨g1,λv H2 yl => ?_⟩
  obtain ⟨T,x,rfl,hn,rfl,hx⟩:=yl
  exact zjv hn (zib (g2 x hx) λ_=>.int _)
 stop:=λi H L h hl=>by
  have h:Sep K H ((.ref a,.fz (.lst ds))::L):=h
  rw [zih] at hl
  obtain ⟨G,ex,r,_⟩:=zeU h
  cases r with
  | lst hs rs=>exact ⟨_,SqL.of (ex.keep hs),by rw [rs.length]; exact hl⟩
theorem zmy {P:Program} {w:World} {K:PySem.W.Frag} {elts:List Expr} {kk:Nat} {tpos:Pos} (a e it:Addr) (n0:Nat) :
 Turn P w K (.Tuple elts kk tpos) (Iet K a n0) [e,it] e (λi h=>(∃ old,IsEnum h e it ((i:Nat):Int) old)/\h.IsTupleIter it a i/\e≠it/\a≠it/\a≠e/\i<=n0) where
 mem:=yaa
 obj:=λi h t b hb=>by
  obtain ⟨⟨old,h1⟩,⟨o,h2,_,h3⟩,_⟩:=t
  rcases yap.mp hb with z | z
  ·subst z
   exact ⟨_,h1,λv q=>nomatch q⟩
  ·cases yah.mp z
   exact ⟨o,h2,λv q=>by rw [h3] at q; cases q⟩
 keep:=λi h h' t k=>by
  obtain ⟨⟨old,h1⟩,h2,n⟩:=t
  exact ⟨⟨old,k e yaa _ h1⟩,h2.at λo q=>k it (yab _ yaa) o q,n⟩
 item:=by
  intro X hP hw hK hc i pins s σ H E I hf t g
  subst hP hw hK
  obtain ⟨⟨old,h1⟩,h2,n,n2,n3,n4⟩:=t
  obtain ⟨l,x,q,ln,hx⟩:=g
  obtain ⟨its,rv,p,_⟩:=I.tuple q
  obtain ⟨u,hu,ru⟩:=rv.get hx
  have le:e<s.heap.objs.size:=Heap.lt_size h1
  have li:it<s.heap.objs.size:=by
   obtain ⟨_,z,_⟩:=h2
   exact Heap.lt_size z
  have tp:s.heap.IsTuple a its.toArray:=p
  have hlt:i<its.toArray.size:=by
   have:=(yal.mp hu).1
   simpa using this
  refine wpAny_pyNext_enum_itemD (Draws.tuple (A:=X.A.in1) (show X.A.in1.handled=none from I.ok.hd hc) it a n2 its.toArray) h1 ⟨h2,tp⟩ hlt n (λz => ?_) λv h' tk hv ho ht hT hsz hk => ?_
  ·rcases yap.mp z with z | z
   ·exact n z
   ·exact n3 (yah.mp z).symm
  have ev:v=u:=by
   have hv':its.toArray[i]?=some v:=hv
   rw [ybv,hu] at hv'
   exact (yaT hv').symm
  subst ev
  refine ⟨_,rfl,wpAny_letOwnedTupleGo_enum (s:={ s with heap:=h',toks:=tk+1 }) ho λh2' he' sb => ?_⟩
  have hT2:h2'.get? s.heap.objs.size=some { cls:=.type "tuple",data:=.seq #[.int i tk,v] }:=(sb.2 _ (ya2 le)).trans hT
  have ok:ObjOk X.prog X.w (upd H s.heap.objs.size (.tup [.int (i:Nat),x])) h2' s.heap.objs.size (.tup [.int (i:Nat),x]):=by
   refine ⟨?_,[.int i tk,v],.cons ⟨_,rfl⟩ (.cons ru .nil),_,hT2,rfl,_,rfl⟩
   show 2<=sizeLine
   decide
  have kk2:∀ b o,b∉[e,it]->s.heap.get? b=some o->h2'.get? b=some o:=λb o hb z=>by
   have b1:b≠e:=λy=>hb (by rw [y]; exact yaa)
   have b2:b≠it:=λy=>hb (by rw [y]; exact yab _ yaa)
   exact (sb.2 b b1).trans (hk b o b1 b2 z)
  have I1:=I.turnedNew (t':=tk+1) kk2 hf (yaj _) ok
  refine ⟨.ref s.heap.objs.size,_,I1,rfl,⟨_,x,rfl,I.hok.fresh (yaj _),rfl,λl' hy => ?_⟩,⟨⟨v,?_⟩,?_,n,n2,n3,?_⟩,λb hb => ?_⟩
  ·rw [I.tuple_inj hy q]
   exact hx
  ·rw [show ((i+1:Nat):Int)=(i:Int)+1 by omega]
   exact he'
  ·exact ht.1.at λo z=>(sb.2 it (ybR n)).trans z
  ·have:=(yal.mp hx).1
   omega
  ·have lb:b<s.heap.objs.size:=by
    rcases yap.mp hb with z | z
    ·rw [z]
     exact le
    ·rw [yah.mp z]
     exact li
   rw [upd_ne (ya5 lb)]
   exact (hf b hb).1
 done:=by
  intro X hP hw hK hc i pins s σ H E I hf t g
  subst hP hw hK
  obtain ⟨⟨old,h1⟩,h2,n,n2,n3,n4⟩:=t
  obtain ⟨l,q,ln,hl⟩:=g
  obtain ⟨its,rv,p,_⟩:=I.tuple q
  obtain ⟨f0,f1,f2,f3,f4,f5⟩:=hf it (yab _ yaa)
  have len:=rv.length
  have tp:s.heap.IsTuple a its.toArray:=p
  have sz:i=its.toArray.size:=by
   rw [yaW]
   omega
  exact wpAny_pyNext_enum_endD (Draws.tuple (A:=X.A.in1) (show X.A.in1.handled=none from I.ok.hd hc) it a n2 its.toArray) h1 ⟨sz▸h2,tp⟩ λh' eb=>⟨rfl,I.turned (t':=s.toks) (λb o hb z=>eb b o hb z) f0 f1 f3 f4 f5⟩
 self:=λA i s Q E t h=>by
  obtain ⟨⟨_,h1⟩,_⟩:=t
  exact wpAny_pyIter_enum h1 h
theorem zvT {v:Value} {o:Obj} {J:Heap->Prop} (B:Begins v o J) :
 Meets (Builtin.«enumerate.__new__» ⟨[.type "enumerate",v],[]⟩) (λ_ R s=>J s.heap /\
  R (.ok (.ret (.ref (s.heap.push o).objs.size))) { s with heap:=(s.heap.push o).push { cls:=.type "enumerate",data:=.fields #[.none,.bool false,.ref s.heap.objs.size,rawInt 0,.none,.none] } }) :=
 .of_wp λprog w A R s ⟨hj,hr⟩=>by
  obtain ⟨hp,g,d,tk,os⟩:=s
  have sub:=sub_enumerate
  have q1:∀ {A':Around} {E:Value->Shared->Prop} {Q:Value->Shared->Prop},Q (.ref hp.objs.size) ⟨hp.push o,g,d,tk,os⟩->wpAny (model prog w) A' (pyIter v) Q E ⟨hp,g,d,tk,os⟩:=by
   intro A' E Q z
   exact B.iter prog w _ _ ⟨hp,g,d,tk,os⟩ _ hj z
  wp_walk using q1
  refine wpAny_stack_any λst=>wpAny_pure ?_
  split
  ·rename_i c _ _ _ _ _
   cases c==Value.type "enumerate" <;>
    (wp_walk using q1
     exact ⟨_,rfl,hr⟩)
  ·wp_walk using q1
   exact ⟨_,rfl,hr⟩
theorem zpc {prog:Program} {w:World} {A:Around} {E:Value->Shared->Prop} {s:Shared} {v:Value} {o:Obj} {J:Heap->Prop} {Q:Value->Shared->Prop} (B:Begins v o J) (hj:J s.heap)
 (h:∀ h',IsEnum h' (s.heap.objs.size+1) s.heap.objs.size 0 .none->h'.get? s.heap.objs.size=some o->(∀ b u,s.heap.get? b=some u->h'.get? b=some u)->Q (.ref (s.heap.objs.size+1)) { s with heap:=h' }) :
 wpAny (model prog w) A (call (.type "enumerate") [v]) Q E s:=by
 refine callType_new F.called_enumerate (by decide) (F.typeCall_enumerate_1 _) (F.newCall_enumerate_1 _) (λobj=>F.args_object_init_2 obj _) F.entry_enumerate_new (zvT B) ⟨hj,?_⟩
 have sz:(s.heap.push o).objs.size=s.heap.objs.size+1:=Heap.size_push ..
 show _/\_
 rw [sz]
 have he:IsEnum ((s.heap.push o).push { cls:=.type "enumerate",data:=.fields #[.none,.bool false,.ref s.heap.objs.size,rawInt 0,.none,.none] }) (s.heap.objs.size+1) s.heap.objs.size 0 .none:=by
  have z:=Heap.get?_push_size (s.heap.push o) (o:={ cls:=.type "enumerate",data:=.fields #[.none,.bool false,.ref s.heap.objs.size,rawInt 0,.none,.none] }) rfl
  rwa [sz] at z
 exact ⟨⟨_,he,rfl⟩,h _ he (Heap.get?_push_of_some _ (Heap.get?_push_size _ B.free)) λb u z=>Heap.get?_push_of_some _ (Heap.get?_push_of_some _ z)⟩
section
variable {y:Y} {a:Expr} {w:WE} {p pos tpos:Pos} {elts:List Expr} {kk:Nat}
def iEn (w:WE):WI:=λe Q X=>w e (λm e1=>match seqD m.d with
 | some ds=>Q (enD ds) e1
 | none=>False) X
theorem zvU (h:zcp w):zsd (iEn w):=λe Q Q' X X' hq hx q=>h _ _ _ _ _ (λm e1 q=>by
 split at q
 ·exact hq _ _ q
 ·exact q.elim) hx q
theorem si_en (hg:Gl y.X "enumerate") (hm:y.X.mg "enumerate" = none) (h:SE y a w) (hs:starEach [a] y.X.env=[(false,eval a y.X.env)]):SI y (.Tuple elts kk tpos) (.Call (.Name "enumerate" p) [a] [] pos) (iEn w) where
 run:=⟨λpins s σ H R I ⟨e,P,h0,q⟩=>by
  refine Call_ (ld_blt I hg hm boot_enumerate (ybe (thn ((zd4 (zac h) zad hs).run.run pos pins s σ H (λvs H1=>∃ (v:V) (m:M) (ds:List D) (e1:En),vs=[v]/\seqD m.d=some ds/\Ok y.X.K H1 σ e1 ((v,.fz m.d)::P) /\
   ∀ J H1 R',Walks y.X.K true J (enD ds) R'->Ok y.X.K H1 σ e1 (R'++P)->R J H1) I ⟨e,P,h0,h.mono _ _ _ _ _ (λm e1 q vs H1 o => ?_) (λ_ _ q=>q) q⟩) λus s1 ⟨vs,H1,I1,r1,v,m,ds,e1,ev,em,o,q⟩ => ?_) hs rfl))
  ·obtain ⟨o,p⟩:=o
   match vs,p with
   | [v],p =>
     split at q
     ·rename_i ds em
      have o:Ok y.X.K H1 σ e1 ((v,m)::P):=o
      exact ⟨v,m,ds,e1,rfl,em,o.freeze,q⟩
     ·exact q.elim
  ·subst ev
   cases r1 with
   | cons r rr =>
     cases rr
     obtain ⟨G,g⟩:=o.2.opn
     obtain ⟨F,w⟩:=g.own (v,.fz m.d) (yag _ yaa)
     have fresh:∀ {h':Heap} {T:Addr->Prop},(∀ b u,s1.heap.get? b=some u->h'.get? b=some u)->∀ b∈[s1.heap.objs.size+1,s1.heap.objs.size],FpOk y.X pins H1 b:=by
      intro h' T _ b hb
      have le:s1.heap.objs.size<=b:=by
       rcases yap.mp hb with z | z
       ·omega
       ·have:=yah.mp z
        omega
      exact I1.fpOk le (I1.hok.fresh le)
     cases w with
     | fz w =>
       generalize m.d=d at w em o
       cases w with
       | tup ht rs =>
         rename_i a vs ds'
         cases em
         cases r
         have sq:SqT y.X.K H1 a vs:=(ht.mono g.ex).sqT
         obtain ⟨its,rv,p1,_⟩:=I1.tuple sq
         have tp:s1.heap.IsTuple a its.toArray:=p1
         have la:a<s1.heap.objs.size:=by
          obtain ⟨_,z,_⟩:=p1
          exact Heap.lt_size z
         refine zpc (begins_tuple a its.toArray) tp λh' he hit hk=>wpAny_pyIter_enum he ?_
         have I2:Inv y.X pins σ H1 { s1 with heap:=h' }:=I1.kept (t':=s1.toks) hk
         exact ⟨s1.heap.objs.size+1,[s1.heap.objs.size+1,s1.heap.objs.size],_,_,H1,rfl,I2,zmy a (s1.heap.objs.size+1) s1.heap.objs.size ds.length,⟨⟨.none,he⟩,⟨_,hit,rfl,rfl⟩,ybA _,ya5 la,ya5 (ycb la),ybd _⟩,fresh (T:=λ_=>True) hk,q _ H1 _ zj5 o⟩
       | lst hs' rs =>
         rename_i a vs ds'
         cases em
         cases r
         obtain ⟨its,rv,p1,_⟩:=I1.list (SqL.of (K:=y.X.K) (g.ex.keep hs'))
         refine call_enumerate_list p1.isList λh' he hit _ hk=>wpAny_pyIter_enum he ?_
         have I2:Inv y.X pins σ H1 { s1 with heap:=h' }:=I1.kept (t':=s1.toks) hk
         exact ⟨s1.heap.objs.size+1,[s1.heap.objs.size+1,s1.heap.objs.size],_,_,H1,rfl,I2,turn_enum a (s1.heap.objs.size+1) s1.heap.objs.size,⟨⟨.none,he⟩,hit,ybA _⟩,fresh (T:=λ_=>True) hk,q _ H1 _ zj6 o⟩
       | non=>cases em
       | bl _=>cases em
       | int _=>cases em
       | str _=>cases em
       | ty _=>cases em
       | opq _=>cases em
       | att _ _=>cases em
       | adr _=>cases em
       | atx _ _=>cases em
       | scr _=>cases em
       | dK _ _=>cases em
       | dT _ _=>cases em⟩
 mono:=zvU h.mono
end
end VW
namespace VW
open PySem PySem.Spec PyProof.Rows L2 R
section
variable {y:Y} {a:Expr} {w:WE} {p pos tpos:Pos} {elts:List Expr} {kk:Nat}
theorem xen (hm:y.X.mg "enumerate" = none) (h:SE y a w) (hg:Gl y.X "enumerate" := by rfl) (hs:starEach [a] y.X.env=[(false,eval a y.X.env)]:=by rfl):SI y (.Tuple elts kk tpos) (.Call (.Name "enumerate" p) [a] [] pos) (iEn w):=si_en hg hm h hs
end
def wLr1 (o:WO):WE:=λe Q X=>o e (λa e1=>zaS a e1 λm=>zdd m λj=>(rngB j/\j<=16777216)/\Q (.lst (rngD 0 j.toNat)) e1) X
theorem zyG {K:PySem.W.Frag} {G:Hp} (i j:Int):Reps K G (rgV i j) (rngD i (j-i).toNat):=by
 unfold rgV rngD
 have e1:(List.range (j-i).toNat).map (λk=>V.int (i+(k:Nat)))=((List.range (j-i).toNat).map λ(k:Nat)=>i+(k:Int)).map V.int:=by rw [yaY]; rfl
 have e2:(List.range (j-i).toNat).map (λ(k:Nat)=>D.int (i+(k:Int)))=((List.range (j-i).toNat).map λ(k:Nat)=>i+(k:Int)).map D.int:=by rw [yaY]; rfl
 rw [e1,e2]
 exact Reps.ofInts _
section
variable {y:Y} {a b:Expr} {o o':WO} {p pos p2 pos2:Pos}
theorem se_lr1 (hc:y.X.calm=true) (hg:Gl y.X "list") (hm:y.X.mg "list" = none) (hg2:Gl y.X "range") (hm2:y.X.mg "range" = none) (ha:SO y a o) (na:starEach [a] y.X.env=(false,eval a y.X.env)::starEach [] y.X.env)
 (nb:starEach [.Call (.Name "range" p2) [a] [] pos2] y.X.env=(false,eval (.Call (.Name "range" p2) [a] [] pos2) y.X.env)::starEach [] y.X.env):SE y (.Call (.Name "list" p) [.Call (.Name "range" p2) [a] [] pos2] [] pos) (wLr1 o) where
 run:=zbb (pe_listRg hc hg hm (prg_1 hg2 hm2 ha.run na) nb) λσ H Q ⟨e,P,h0,q⟩=>⟨e,P,h0,ha.mono _ _ _ _ _ (λa e1 q v H1 o=>by
  obtain ⟨o,p⟩:=o
  obtain ⟨m,m1,q⟩:=zb8 o p q
  obtain ⟨G,g⟩:=o.2.opn
  obtain ⟨j,rfl,c,q⟩:=za5 (g.ownX _ m1) q
  refine ⟨j,rfl,⟨by decide,by decide,c.1.1,c.1.2,?_⟩,λr hr=>q _ _ (g.fin o.1 (.lst hr ?_))⟩
  ·have:=c.2
   show (j-0).toNat<=2 ^ 24
   omega
  ·have:=zyG (K:=y.X.K) (G:=G) 0 j
   rw [Int.sub_zero] at this
   exact this) (λ_ _ q=>q) q⟩
 mono:=λe Q Q' X X' hq hx q=>ha.mono _ _ _ _ _ (λa e1 q=>zaF (λm q=>zaT (λj q=>⟨q.1,hq _ _ q.2⟩) q) q) hx q
theorem xlr1 (hc:y.X.calm=true) (hm:y.X.mg "list" = none) (hm2:y.X.mg "range" = none) (ha:SO y a o) (hg:Gl y.X "list" := by rfl) (hg2:Gl y.X "range" := by rfl) (na:starEach [a] y.X.env=(false,eval a y.X.env)::starEach [] y.X.env:=by rfl)
 (nb:starEach [.Call (.Name "range" p2) [a] [] pos2] y.X.env=(false,eval (.Call (.Name "range" p2) [a] [] pos2) y.X.env)::starEach [] y.X.env:=by rfl):SE y (.Call (.Name "list" p) [.Call (.Name "range" p2) [a] [] pos2] [] pos) (wLr1 o):=se_lr1 hc hg hm hg2 hm2 ha na nb
end
def nLr1 (a:D):R (List D):=(ofO (intD a)).bind λj=>need (decide (rngB j)&&decide (j<=16777216)) (.ok (rngD 0 j.toNat))
def zmz (a:D):R (List D):=(ofO (seqD a)).bind λds=>.ok (enD ds)
def enK (m:M) (QI:List D->En->Prop) (e1:En):Prop:=match seqD m.d with
 | some ds=>QI (enD ds) e1
 | none=>False
def zii (a b:D):R (List D):=match a,b with
 | .lst s,.lst t=>need (Nat.ble (s.length+t.length) sizeLine) (.ok (s++t))
 | _,_=>.no
def opMx (f:Int->Int->Int):OPN:=λms q=>match ms with
 | [.fz (.int i),.fz (.int j)]=>q (.fz (.int (f i j)))
 | _=>False
def imax (i j:Int):Int:=if j > i then j else i
def nMx (f:Int->Int->Int) (a b:D):R D:=match a,b with
 | .int i,.int j=>.ok (.int (f i j))
 | _,_=>.no
section
variable {K:PySem.W.Frag}
theorem zxi (f:Int->Int->Int):SndN K (λxs H Q=>∃ i j,xs=[.int i,.int j]/\Q (.int (f i j)) H) (opMx f) where
 run:=λG H xs ms Q ex ow q=>by
  unfold opMx at q
  split at q
  ·rename_i i j
   match xs,ow with
   | [x,y],ow =>
     obtain ⟨⟨F1,w1⟩,⟨F2,w2⟩,_⟩:=ow
     cases w1 with
     | fz w1 =>
       cases w1
       cases w2 with
       | fz w2 =>
         cases w2
         exact ⟨_,_,rfl,q _ _ (.same (.int _))⟩
  ·exact q.elim
 mono:=λa q q' h k=>by
  unfold opMx at *
  split at k
  ·exact h _ k
  ·exact k.elim
end
section
variable {α β:Type} {P:β->Prop} {XP:Xn->Prop} {k:M->Prop} {ma mb:M} {e:En} {QI:List D->En->Prop} {XX:XQ} {w:WE}
theorem k_frzS {i:Nat} {m:M} {W:WS} {E:zd3} (h:e[i]?=some (some m)) (q:W E (e.set i (some (.fz m.d)))):sSeq (sFrz i) W E e:=by
 unfold sSeq
 exact k_frz h q
theorem zmA (q:w e (λm e1=>enK m QI e1) XX):iEn w e QI XX:=q
theorem zls {f:List D->R β} (h:((zmz ma.d).bind f).post P XP) (q:∀ v,(f v).post P XP->QI v e):enK ma QI e:=by
 unfold zmz at h
 unfold enK
 cases e1:seqD ma.d with
 | none =>
   rw [e1] at h
   exact h.elim
 | some ds =>
   rw [e1] at h
   exact q _ h
def lr1K (m:M) (QE:M->En->Prop) (e1:En):Prop:=zdd m λj=>(rngB j/\j<=16777216)/\QE (.lst (rngD 0 j.toNat)) e1
theorem k_lr1 {QE:M->En->Prop} {f:List D->R β} (h:((nLr1 ma.d).bind f).post P XP) (q:∀ v,(f v).post P XP->QE (.lst v) e):lr1K ma QE e:=by
 unfold nLr1 at h
 obtain ⟨i,e1,h⟩:=zbf h
 obtain ⟨c,h⟩:=za7 h
 rw [yas] at c
 exact zdf e1 ⟨⟨yao c.1,yao c.2⟩,q _ h⟩
theorem k_wlr1 {o:WO} {QE:M->En->Prop} (q:o e (λa e1=>zaS a e1 λm=>lr1K m QE e1) XX):wLr1 o e QE XX:=q
theorem znH {f:List D->R β} (h:((zii ma.d mb.d).bind f).post P XP) (q:∀ v,(f v).post P XP->k (.lst v)):zcb ma mb k:=by
 unfold zii at h
 split at h
 ·rename_i e1 e2
  obtain ⟨c,h⟩:=za7 h
  exact zs0 e1 e2 (yaV c) (q _ h)
 ·exact h.elim
theorem k_mx {g:Int->Int->Int} {f:D->R β} (h:((nMx g ma.d mb.d).bind f).post P XP) (q:∀ v,(f v).post P XP->k (.fz v)):opMx g [ma,mb] k:=by
 unfold nMx at h
 split at h
 ·rename_i e1 e2
  rw [zfY e1,zfY e2]
  exact q _ h
 ·exact h.elim
end
def zj7 (en:Bool) (m:M):Option (List D):=(seqD m.d).map λds=>if en=true then enD ds else ds
def ownE (i:Nat) (m:M) (E:zd3):zd3 where
 nx:=λe=>E.nx (e.set i (some m))
 rt:=λr e=>E.rt r (e.set i (some m))
 bk:=λe=>E.bk (e.set i (some m))
 ct:=λe=>E.ct (e.set i (some m))
 ex:=λx e=>E.ex x (e.set i (some m))
def zmB (en:Bool) (i:Nat) (t:Tg) (b:WS):WS:=λE e=>match e[i]? with
 | some (some m)=>match zj7 en m with
   | some ds=>zda t b (ownE i m E) ds (e.set i none)
   | none=>False
 | _=>False
structure SIo (y:Y) (en:Bool) (tg iter:Expr) (i:Nat):Prop where
 run:PI y.X tg iter (λσ H R'=>∃ e P m ds v,Ok y.X.K H σ e P/\e[i]?=some (some m)/\zj7 en m=some ds/\σ[i]?=some (some v)/\∀ J H1,Walks y.X.K (isTp tg) J ds [(v,m)]->Ok y.X.K H1 σ (e.set i none) ((v,m)::P)->R' J H1)
theorem zyH {i:Nat} {m:M} {E E':zd3} (l:E.Le E'):(ownE i m E).Le (ownE i m E'):=⟨λ_ q=>l.nx _ q,λ_ _ q=>l.rt _ _ q,λ_ q=>l.bk _ q,λ_ q=>l.ct _ q,λ_ _ q=>l.ex _ _ q⟩
section
variable {y:Y} {κ:List (Nat×V)} {b:WS} {pos:Pos}
theorem zyI {en:Bool} {i:Nat} {tg:Tg} {target iter:Expr} {body:List Stmt} (hp:PassesOwn (model y.X.prog y.X.w) y.X.A y.X.env y.X.xe) (hc:y.X.calm=true) (hi:SIo y en target iter i) (hg:PG y.X target (tg.tg y.X.K)) (hb:SSs y κ body b)
 (hs:∀ x,foldedSetIterable iter y.X.env x=pure x) (hκ:∀ p∈κ,p.1∉tg.slots) (hk:∃ v,(i,v)∈κ) (htp:(isTp target && !tg.isTp)=false):SS y κ (.For target iter body [] pos) (zmB en i tg b) where
 run:=zeB (ps_for hp hc hi.run hg hb.run hs) λD σ H ⟨e,P,k0,h0,q⟩=>by
  unfold zmB at q
  split at q
  ·rename_i m em
   split at q
   ·rename_i ds eds
    obtain ⟨v,sv,_⟩:=h0.peek em
    obtain ⟨v0,kv⟩:=hk
    have ev:v0=v:=by
     have:=(k0 _ kv).symm.trans sv
     simpa using this
    subst ev
    have at':∀ σ',Kept κ σ'->σ'[i]?=some (some v0):=λσ' k=>k _ kv
    have back:∀ {σ':L2.St} {H':Hp} {e':En} {L:List (V×M)},Kept κ σ'->Ok y.X.K H' σ' e' ((v0,m)::L)->Ok y.X.K H' σ' (e'.set i (some m)) L:=λk o=>o.give (at' _ k)
    refine ⟨e,P,m,ds,v0,h0,em,eds,sv,λJ H1 wk o => ?_⟩
    let E1:zd3:=ownE i m (lend y κ P D)
    refine ⟨λj n σ' H'=>n=ds.length-j/\j<=ds.length/\∃ e',Kept κ σ'/\Ok y.X.K H' σ' e' ((v0,m)::P)/\zda tg b E1 (ds.drop j) e',⟨ds.length,by simp,ybd _,_,k0,o,q⟩,?_⟩
    rintro j n σ' H' ⟨rfl,hj,e',hk',o',q'⟩
    have hsep:Sep y.X.K H' ([(v0,m)]++(prs σ' e'++P)):=o'.2.perm yad
    by_cases hlt:j<ds.length
    ·rw [ybj hlt] at q'
     obtain ⟨g1,g2⟩:=wk.go j H' _ ds[j] hsep (yak hlt)
     unfold zda at q'
     split at q'
     ·rename_i e2 ea
      refine .inr ⟨g1,λσ2 H2=>∃ e3,Kept κ σ2/\Ok y.X.K H2 σ2 e3 ((v0,m)::P)/\zda tg b E1 (ds.drop (j+1)) e3,λσ2 H2 n=>⟨ds.length-(j+1),by omega,rfl,hlt,n⟩,λx H2 yl => ?_⟩
      have sx:=g2 x H2 yl
      refine tg.okG (P:=(v0,m)::P) sx o'.1 (show ((v0,m)::(prs σ' e'++P)).Perm (prs σ' e'++(v0,m)::P) from yad.symm) htp ea λσ3 o3 bt => ?_
      refine ⟨e2,(v0,m)::P,hk'.but bt hκ,o3,hb.mono { nx:=zda tg b E1 (ds.drop (j+1)),rt:=E1.rt,bk:=E1.nx,ct:=zda tg b E1 (ds.drop (j+1)),ex:=E1.ex } _ _
       ⟨λe4 q σ4 H4 k4 o4=>⟨e4,k4,o4,q⟩,λr e4 q σ4 v H4 k4 o4=>q σ4 v H4 k4 (back k4 (o4.perm (List.Perm.swap _ _ _))),λe4 q σ4 H4 k4 o4=>q σ4 H4 k4 (back k4 o4),λe4 q σ4 H4 k4 o4=>⟨e4,k4,o4,q⟩,λx e4 q σ4 c d H4 k4 r o4=>q σ4 c d H4 k4 r (back k4 o4)⟩ q'⟩
     ·exact q'.elim
    ·have e0:j=ds.length:=by omega
     subst e0
     rw [ybX] at q'
     exact .inl ⟨wk.stop _ H' _ hsep (yaj _),q' σ' H' hk' (back hk' o')⟩
   ·exact q.elim
  ·exact q.elim
 mono:=λE E' e l q=>by
  unfold zmB at *
  split at q
  ·split at q
   ·exact zgv hb.mono (zyH l) _ _ q
   ·exact q.elim
  ·exact q.elim
theorem zs8 {K:PySem.W.Frag} {tp:Bool} {a:Addr} {ds:List D}:Walks K tp (Itl K a) ds [(.ref a,.lst ds)] where
 go:=λi H L d h e=>by
  have h:Sep K H ((.ref a,.lst ds)::L):=h
  obtain ⟨G,g⟩:=h.opn
  obtain ⟨F,w⟩:=g.own (.ref a,.lst ds) yaa
  cases w with
  | lst hs rs =>
    obtain ⟨v,hv,rv⟩:=rs.at e
    refine ⟨⟨_,v,SqL.of hs,hv⟩,λx H' yl => ?_⟩
    obtain ⟨rfl,hx⟩:=yl
    have:=hx _ (SqL.of hs)
    rw [hv] at this
    cases this
    exact .inl (g.res _ _ _ (.same rv))
 stop:=λi H L h hl=>by
  have h:Sep K H ((.ref a,.lst ds)::L):=h
  obtain ⟨G,g⟩:=h.opn
  obtain ⟨F,w⟩:=g.own (.ref a,.lst ds) yaa
  cases w with
  | lst hs rs=>exact ⟨_,SqL.of hs,by rw [rs.length]; exact hl⟩
theorem si_own {i:Nat} {x:Str} {p:Pos} {tg:Expr} (hN:y.X.N[i]?=some x) (hv:Vis y.X.env.scope x) (hd:(x==("__debug__" : Str))=false) (hcd:(x==("__classdict__" : Str))=false):SIo y false tg (.Name x p) i:=by
 refine ⟨⟨λpins s σ H R I ⟨e,P,m,ds,v,h0,em,eds,sv,q⟩ => ?_⟩⟩
 refine thn ((pe_var hN hv hd hcd).run pins s σ H (λu H1=>u=v/\H1=H) I ⟨v,sv,rfl,rfl⟩) λu s1 ⟨x',H1,I1,r1,e1,e2⟩ => ?_
 subst e1 e2
 obtain ⟨v',sv',o⟩:=h0.take em
 have e3:v'=x':=by
  have:=sv'.symm.trans sv
  simpa using this
 subst e3
 cases m with
 | lst ds' =>
   have e4:ds'=ds:=by
    have:some ds'=some ds:=eds
    simpa using this
   subst e4
   obtain ⟨G,g⟩:=o.2.opn
   obtain ⟨F,w⟩:=g.own (v',.lst ds') (yag _ yaa)
   cases w with
   | lst hs rs =>
     cases r1
     exact zx9 I1 (SqL.of hs) (q _ _ zs8 o)
 | fz d =>
   obtain ⟨G,g⟩:=o.2.opn
   obtain ⟨F,w⟩:=g.own (v',.fz d) (yag _ yaa)
   cases w with
   | fz w =>
     cases w with
     | tup ht rs =>
       cases eds
       cases r1
       exact iterT I1 ((ht.mono g.ex).sqT) (q _ _ znp o)
     | lst ht rs =>
       cases eds
       cases r1
       exact zx9 I1 (SqL.of (g.ex.keep ht)) (q _ _ znq o)
     | non=>cases eds
     | bl _=>cases eds
     | int _=>cases eds
     | str _=>cases eds
     | ty _=>cases eds
     | opq _=>cases eds
     | att _ _=>cases eds
     | adr _=>cases eds
     | atx _ _=>cases eds
     | scr _=>cases eds
     | dK _ _=>cases eds
     | dT _ _=>cases eds
 | dK _=>cases eds
 | dT _=>cases eds
 | lk _ _ _ _=>cases eds
 | bx _ _=>cases eds
 | dq _=>cases eds
 | dA _ _=>cases eds
 | ob _ _ _=>cases eds
theorem zlt {K:PySem.W.Frag} {a:Addr} {ds:List D}:Walks K true (Ite K a) (enD ds) [(.ref a,.lst ds)] where
 go:=λi H L d h e=>by
  have h:Sep K H ((.ref a,.lst ds)::L):=h
  obtain ⟨u,hu,rfl⟩:=zs7 e
  obtain ⟨G,g⟩:=h.opn
  obtain ⟨F,w⟩:=g.own (.ref a,.lst ds) yaa
  cases w with
  | lst hs rs =>
    obtain ⟨v,hv,rv⟩:=rs.at hu
    refine ⟨⟨_,v,SqL.of hs,hv⟩,λx H2 yl => ?_⟩
    obtain ⟨T,x,rfl,hn,rfl,hx⟩:=yl
    have:=hx _ (SqL.of hs)
    rw [hv] at this
    cases this
    exact zjv hn (zib (g.res _ _ _ (.same rv)) λ_=>.int _)
 stop:=λi H L h hl=>by
  have h:Sep K H ((.ref a,.lst ds)::L):=h
  rw [zih] at hl
  obtain ⟨G,g⟩:=h.opn
  obtain ⟨F,w⟩:=g.own (.ref a,.lst ds) yaa
  cases w with
  | lst hs rs=>exact ⟨_,SqL.of hs,by rw [rs.length]; exact hl⟩
theorem zyJ {i:Nat} {x:Str} {p q pos tpos:Pos} {elts:List Expr} {kk:Nat} (hg:Gl y.X "enumerate") (hm:y.X.mg "enumerate" = none) (hN:y.X.N[i]?=some x) (hv:Vis y.X.env.scope x) (hd:(x==("__debug__" : Str))=false) (hcd:(x==("__classdict__" : Str))=false)
 (hs:starEach [Expr.Name x p] y.X.env=[(false,eval (.Name x p) y.X.env)]):SIo y true (.Tuple elts kk tpos) (.Call (.Name "enumerate" q) [.Name x p] [] pos) i:=by
 refine ⟨⟨λpins s σ H R I ⟨e,P,m,ds,v,h0,em,eds,sv,q⟩ => ?_⟩⟩
 refine Call_ (ld_blt I hg hm boot_enumerate (ybe (thn ((pa_cons (pe_var hN hv hd hcd) pa_nil).run pos pins s σ H (λus H1=>us=[v]/\H1=H) I ⟨v,sv,rfl,rfl⟩) λus s1 ⟨vs,H1,I1,r1,e1,e2⟩ => ?_) hs rfl))
 subst e1 e2
 obtain ⟨v',sv',o⟩:=h0.take em
 have e3:v'=v:=by
  have:=sv'.symm.trans sv
  simpa using this
 subst e3
 cases r1 with
 | cons r rr =>
   cases rr
   have fresh:∀ {h':Heap} {T:Addr->Prop},(∀ b u,s1.heap.get? b=some u->h'.get? b=some u)->∀ b∈[s1.heap.objs.size+1,s1.heap.objs.size],FpOk y.X pins H1 b:=by
    intro h' T _ b hb
    have le:s1.heap.objs.size<=b:=by
     rcases yap.mp hb with z | z
     ·omega
     ·have:=yah.mp z
      omega
    exact I1.fpOk le (I1.hok.fresh le)
   obtain ⟨G,g⟩:=o.2.opn
   obtain ⟨F,w⟩:=g.own (v',m) (yag _ yaa)
   cases w with
   | lst hs' rs =>
     cases eds
     cases r
     obtain ⟨its,rv,p1,_⟩:=I1.list (SqL.of (K:=y.X.K) (hs'))
     refine call_enumerate_list p1.isList λh' he hit _ hk=>wpAny_pyIter_enum he ?_
     have I2:Inv y.X pins σ H1 { s1 with heap:=h' }:=I1.kept (t':=s1.toks) hk
     exact ⟨s1.heap.objs.size+1,[s1.heap.objs.size+1,s1.heap.objs.size],_,_,H1,rfl,I2,turn_enum _ (s1.heap.objs.size+1) s1.heap.objs.size,⟨⟨.none,he⟩,hit,ybA _⟩,fresh (T:=λ_=>True) hk,q _ H1 zlt o⟩
   | fz w =>
     cases w with
     | lst hs' rs =>
       cases eds
       cases r
       obtain ⟨its,rv,p1,_⟩:=I1.list (SqL.of (K:=y.X.K) (g.ex.keep hs'))
       refine call_enumerate_list p1.isList λh' he hit _ hk=>wpAny_pyIter_enum he ?_
       have I2:Inv y.X pins σ H1 { s1 with heap:=h' }:=I1.kept (t':=s1.toks) hk
       exact ⟨s1.heap.objs.size+1,[s1.heap.objs.size+1,s1.heap.objs.size],_,_,H1,rfl,I2,turn_enum _ (s1.heap.objs.size+1) s1.heap.objs.size,⟨⟨.none,he⟩,hit,ybA _⟩,fresh (T:=λ_=>True) hk,q _ H1 zj6 o⟩
     | @tup a vs ds' ht rs =>
       cases eds
       cases r
       have sq:SqT y.X.K H1 a vs:=(ht.mono g.ex).sqT
       obtain ⟨its,rv,p1,_⟩:=I1.tuple sq
       have tp:s1.heap.IsTuple a its.toArray:=p1
       have la:a<s1.heap.objs.size:=by
        obtain ⟨_,z,_⟩:=p1
        exact Heap.lt_size z
       refine zpc (begins_tuple a its.toArray) tp λh' he hit hk=>wpAny_pyIter_enum he ?_
       have I2:Inv y.X pins σ H1 { s1 with heap:=h' }:=I1.kept (t':=s1.toks) hk
       exact ⟨s1.heap.objs.size+1,[s1.heap.objs.size+1,s1.heap.objs.size],_,_,H1,rfl,I2,zmy a (s1.heap.objs.size+1) s1.heap.objs.size ds'.length,⟨⟨.none,he⟩,⟨_,hit,rfl,rfl⟩,ybA _,ya5 la,ya5 (ycb la),ybd _⟩,fresh (T:=λ_=>True) hk,q _ H1 zj5 o⟩
     | non=>cases eds
     | bl _=>cases eds
     | int _=>cases eds
     | str _=>cases eds
     | ty _=>cases eds
     | opq _=>cases eds
     | att _ _=>cases eds
     | adr _=>cases eds
     | atx _ _=>cases eds
     | scr _=>cases eds
     | dK _ _=>cases eds
     | dT _ _=>cases eds
   | dK _ _=>cases eds
   | dT _ _=>cases eds
   | lk _ _=>cases eds
   | bx _ _ _ _=>cases eds
   | dq _=>cases eds
   | dA _ _=>cases eds
   | ob _ _=>cases eds
theorem yforO {en:Bool} {tg:Tg} {target iter:Expr} {body:List Stmt} (i:Nat) (hk:∃ v,(i,v)∈κ) (hp:PassesOwn (model y.X.prog y.X.w) y.X.A y.X.env y.X.xe) (hc:y.X.calm=true) (hi:SIo y en target iter i) (hg:PG y.X target (tg.tg y.X.K)) (hb:SSs y κ body b)
 (hκ:∀ p∈κ,p.1∉tg.slots) (hs:∀ x,foldedSetIterable iter y.X.env x=pure x:=by exact λ_=>rfl) (htp:(isTp target && !tg.isTp)=false:=by rfl):SS y κ (.For target iter body [] pos) (zmB en i tg b):=zyI hp hc hi hg hb hs hκ hk htp
theorem xown (i:Nat) {x:Str} {p:Pos} {tg:Expr} (hN:y.X.N[i]?=some x:=by rfl) (hv:Vis y.X.env.scope x:=by first | exact .inl rfl | exact .inr (.inl rfl) | exact .inr (.inr rfl)) (hd:(x==("__debug__" : Str))=false:=by decide)
 (hcd:(x==("__classdict__" : Str))=false:=by decide):SIo y false tg (.Name x p) i:=si_own hN hv hd hcd
theorem xownE (i:Nat) {x:Str} {p q pos tpos:Pos} {elts:List Expr} {kk:Nat} (hm:y.X.mg "enumerate" = none) (hg:Gl y.X "enumerate" := by rfl) (hN:y.X.N[i]?=some x:=by rfl) (hv:Vis y.X.env.scope x:=by first | exact .inl rfl | exact .inr (.inl rfl) | exact .inr (.inr rfl)) (hd:(x==("__debug__" : Str))=false:=by decide)
 (hcd:(x==("__classdict__" : Str))=false:=by decide) (hs:starEach [Expr.Name x p] y.X.env=[(false,eval (.Name x p) y.X.env)]:=by rfl):SIo y true (.Tuple elts kk tpos) (.Call (.Name "enumerate" q) [.Name x p] [] pos) i:=zyJ hg hm hN hv hd hcd hs
end
def nOwn (en:Bool) (m:M):R (List D):=ofO (zj7 en m)
section
variable {e:En} {E:zd3} {A:WS} {g:Tg} {i:Nat} {m:M} {ds:List D} {en:Bool}
theorem k_forO (h:e[i]?=some (some m)) (h2:zj7 en m=some ds) (q:zda g A (ownE i m E) ds (e.set i none)):zmB en i g A E e:=by
 unfold zmB
 rw [h]
 show (match zj7 en m with
  | some ds=>zda g A (ownE i m E) ds (e.set i none)
  | none=>False)
 rw [h2]
 exact q
theorem zxj {β:Type} {P:β->Prop} {XP:Xn->Prop} {f:List D->R β} (h:e[i]?=some (some m)) (hp:((nOwn en m).bind f).post P XP) (q:∀ ds,(f ds).post P XP->zda g A (ownE i m E) ds (e.set i none)):zmB en i g A E e:=by
 unfold nOwn at hp
 obtain ⟨ds,h2,hp⟩:=zmp hp
 exact k_forO h h2 (q ds hp)
theorem zxk (q:E.nx (e.set i (some m))):(ownE i m E).nx e:=q
end
mutual
theorem zj8 {h:Heap}:∀ {v:Value} {d:PyData} {as:List Addr},Reads h v d as->∀ a∈as,a<h.objs.size
 | _,_,_,.none=>λ_ z=>nomatch z
 | _,_,_,.bool _=>λ_ z=>nomatch z
 | _,_,_,.int _ _=>λ_ z=>nomatch z
 | _,_,_,.str _ _=>λ_ z=>nomatch z
 | _,_,_,.list h1 _ _ r=>λa z=>(yap.mp z).elim (λe=>e▸Heap.lt_size h1) (reads_there' r a)
 | _,_,_,.tuple _ _ _ r=>reads_there' r
 | _,_,_,.dict h1 _ _ r1 r2=>λa z=>(yay.mp z).elim (λz=>(yap.mp z).elim (λe=>e▸Heap.lt_size h1) (reads_there' r1 a)) (reads_there' r2 a)
theorem reads_there' {h:Heap}:∀ {vs:List Value} {ds:List PyData} {as:List Addr},ReadsAll h vs ds as->∀ a∈as,a<h.objs.size
 | _,_,_,.nil=>λ_ z=>nomatch z
 | _,_,_,.cons r1 r2=>λa z=>(yay.mp z).elim (zj8 r1 a) (reads_there' r2 a)
end
theorem zvV {K:PySem.W.Frag} {H:Hp}:∀ {vs:List V} {ps:List PyData} {its:List Value},Vals vs its->DpAll K H vs ps->PySem.W.EachIs (λ(v:Value) (b:V×PyData)=>RelV b.1 v/\Dp K H b.1 b.2) its (vs.zip ps):=by
 intro vs ps its rv hd
 induction rv generalizing ps with
 | nil =>
   cases hd
   exact .nil
 | cons r rv ih =>
   cases hd with
   | cons h hd=>exact .cons ⟨r,h⟩ (ih hd)
theorem zs9 {K:PySem.W.Frag} {H:Hp}:∀ {out:List Value} {bs:List (V×PyData)},PySem.W.EachIs (λ(v:Value) (b:V×PyData)=>RelV b.1 v/\Dp K H b.1 b.2) out bs->Vals (bs.map (·.1)) out:=by
 intro out bs e
 induction e with
 | nil=>exact .nil
 | cons h _ ih=>exact .cons h.1 ih
section
variable {X:Cx}
theorem zta {pins:List (Addr×Obj)} {σ:L2.St} {H:Hp} {s:Shared} {acc:List Value} {vs:List V} {ps:List PyData} {Q:VK} (hu:X.A.units+64<cLine) (I0:Inv X pins σ H s)
 (rv:Vals vs acc) (hd:DpAll X.K H vs ps) (hz:vs.length<=sizeLine) (ok:zfi ps=true) (q:∀ p,H p=none->Q (.ref p) (upd H p (.lst (((vs.zip ps).mergeSort (PySem.W.dataLe false (·.2))).map (·.1))))) :
 wpAny (model X.prog X.w) X.A.in1 (call (.builtin "list.sort") [.ref s.heap.objs.size]) (λ_ s2=>EP X pins σ Q (.ref s.heap.objs.size) s2) X.xe { s with heap:=s.heap.push (seqObj "list" acc.toArray 0) }:=by
 have len:=zsM hd
 have ho:(s.heap.push (seqObj "list" acc.toArray 0)).get? s.heap.objs.size=some (seqObj "list" acc.toArray 0):=Heap.get?_push_size _ rfl
 unfold zfi at ok
 obtain ⟨ok,o3⟩:=yaX.mp ok
 obtain ⟨o1,o2⟩:=yaX.mp ok
 have em:(vs.zip ps).map (·.2)=ps:=by
  rw [List.map_snd_zip]
  omega
 have mem:∀ b,b∈vs.zip ps->b.2∈ps:=λb hb=>(ycM hb).2
 have each:=zvV rv hd
 refine PySem.W.list_sort_data (R:=λ(v:Value) (b:V×PyData)=>RelV b.1 v/\Dp X.K H b.1 b.2) (enc:=(·.2)) (bs:=vs.zip ps) ho each ?_ ?_ ?_ ?_ ?_ λout ol eo => ?_
 ·refine each.mono λv b ⟨h1,h2⟩ => ?_
  obtain ⟨as,r⟩:=Dp.reads I0 b.2 b.1 v h2 h1
  refine ⟨as,PyProof.Rows.Reads.keeps (λb o e=>Heap.get?_push_of_some _ e) r,λz => ?_⟩
  exact Nat.lt_irrefl s.heap.objs.size (zj8 r _ z)
 ·rw [em]
  intro d hd d' hd'
  exact yav.mp (yav.mp o1 d hd) d' hd'
 ·rw [em]
  rcases Bool.or_eq_true_iff.mp o3 with z | z
  ·refine .inl λd hd => ?_
   have:=yav.mp z d hd
   split at this
   ·exact ⟨_,_,rfl⟩
   ·cases this
  ·refine .inr λd hd => ?_
   have:=yav.mp z d hd
   refine ⟨λe => ?_,λxs e => ?_⟩
   ·rw [e] at this
    cases this
   ·rw [e] at this
    cases this
 ·rw [ybM,← len,ycn]
  exact hz
 ·intro b hb
  have:=yao (yav.mp o2 b.2 (mem b hb))
  show X.A.units+1+1+_<cLine
  omega
 ·obtain ⟨ep,he⟩:=PyProof.Rows.sortedHeap_at (out:=out.toArray) ho
  have vout:=zs9 eo
  have hlen:(((vs.zip ps).mergeSort (PySem.W.dataLe false (·.2))).map (·.1)).length<=sizeLine:=by
   rw [yac,ybU,ybM,← len,ycn]
   exact hz
  exact ⟨.ref s.heap.objs.size,upd H s.heap.objs.size (.lst _),I0.laid (t':=s.toks) (λb o z=>by
   have l:=Heap.lt_size z
   rw [PyProof.Rows.sortedHeap_old (ya5 l) (by rw [Heap.size_push]; exact ycb l)]
   exact Heap.get?_push_of_some _ z) (yaj _) ⟨hlen,out,ep,vout,he⟩,rfl,q _ (I0.hok.fresh (yaj _))⟩
end
end VW
namespace VW
open PySem PySem.Spec PyProof.Rows L2
abbrev zpd (en:DictEntry):Obj:={ cls:=.type "tuple",data:=.seq #[en.key,en.val] }
abbrev zij (acc:Array Value) (c:Nat):Obj:={ cls:=.type "list",dict:=none,data:=.seq acc c,slots:=#[] }
structure Made (es:Array DictEntry) (lo:Addr) (h:Heap) (ts:List Addr):Prop where
 rise:ts.Pairwise (· < ·)
 over:∀ t∈ts,lo<t
 pair:∀ (j:Nat) (t:Addr),ts[j]?=some t->∃ en,es[j]?=some en/\h.get? t=some (zpd en)
theorem Made.lt {es:Array DictEntry} {lo:Addr} {h:Heap} {ts:List Addr} (g:Made es lo h ts) {t:Addr} (m:t∈ts):t<h.objs.size:=by
 obtain ⟨j,hj⟩:=ybo.mp m
 obtain ⟨_,_,e⟩:=g.pair j t hj
 exact Heap.lt_size e
def Exs (H H':Hp):Prop:=∀ a o,H a=some o->H' a=some o
theorem Exs.trans {H H1 H2:Hp} (a:Exs H H1) (b:Exs H1 H2):Exs H H2:=λx o h=>b x o (a x o h)
theorem Exs.new {H:Hp} {p:Addr} {o:HO} (h:H p=none):Exs H (upd H p o):=λa u e=>by
 rw [upd_ne (ne_of_none e h)]
 exact e
theorem ztb {X:Cx} {pins:List (Addr×Obj)} {σ:L2.St} {H H':Hp} {s:Shared} {h':Heap} {t':Nat} (I:Inv X pins σ H s) (k:∀ b o,s.heap.get? b=some o->h'.get? b=some o) (ex:Exs H H') (low:∀ b,b<s.heap.objs.size->H' b=H b)
 (new:∀ b o,H' b=some o->H b=some o\/ObjOk X.prog X.w H' h' b o):Inv X pins σ H' { s with heap:=h',toks:=t' } :=
 I.un ⟨λb o e _ _ _=>k b o e,λb o e _ _ _=>⟨o.slots,k b o e⟩,λb o e n _=>(low b (Heap.lt_size e)).trans n,λb o e _=>⟨o,k b o e⟩,λb xs e=>ex b _ e,λb o u e=>ex b _ e,λb ps e=>⟨#[],by rw [ex b _ e]; simp⟩⟩
  λb o e=>(new b o e).elim (λz=>(I.hok b o z).stay (λd v _ y=>k d v y) (λd y=>ex d _ y) λd xs y=>ex d _ y) id
def lay (H:Hp):List (Addr×HO)->Hp
 | []=>H
 | x::r=>upd (lay H r) x.1 x.2
theorem zmC {H:Hp} {b:Addr}:∀ {xs:List (Addr×HO)},(∀ x∈xs,x.1≠b)->lay H xs b=H b
 | [],_=>rfl
 | x::r,h=>by
   show upd (lay H r) x.1 x.2 b=H b
   rw [upd_ne (h x yaa).symm]
   exact zmC λy z=>h y (yab _ z)
theorem zxl {H:Hp}:∀ {xs:List (Addr×HO)},(xs.map (·.1)).Nodup->∀ x∈xs,lay H xs x.1=some x.2
 | [],_,_,z=>nomatch z
 | y::r,nd,x,z=>by
   obtain ⟨n1,n2⟩:=ya9.mp nd
   show upd (lay H r) y.1 y.2 x.1=some x.2
   rcases yap.mp z with e | z
   ·rw [e]
    exact upd_same
   ·rw [upd_ne λe=>n1 (yan.mpr ⟨x,z,e⟩)]
    exact zxl n2 x z
theorem zxm {H:Hp} {b:Addr} {o:HO}:∀ {xs:List (Addr×HO)},lay H xs b=some o->H b=some o\/(b,o)∈xs
 | [],e=>.inl e
 | x::r,e=>by
   by_cases z:b=x.1
   ·subst z
    have e:upd (lay H r) x.1 x.2 x.1=some o:=e
    rw [upd_same] at e
    cases e
    exact .inr yaa
   ·have e:upd (lay H r) x.1 x.2 b=some o:=e
    rw [upd_ne z] at e
    exact (zxm e).imp id λy=>yab _ y
theorem znI {α β:Type} {F:α->β->Prop}:∀ {xs:List α} {ys:List β},xs.length=ys.length->(∀ (j:Nat) (x:α) (y:β),xs[j]?=some x->ys[j]?=some y->F x y)->Paired F xs ys
 | [],[],_,_=>.nil
 | [],_::_,h,_=>by cases h
 | _::_,[],h,_=>by cases h
 | x::xs,y::ys,h,f=>.cons (f 0 x y rfl rfl) (znI (Nat.succ.inj h) λj a b e1 e2=>f (j+1) a b e1 e2)
theorem zlu {α β:Type} {F:α->β->Prop}:∀ {xs:List α} {ys:List β},Paired F xs ys->∀ {j:Nat} {x:α} {y:β},xs[j]?=some x->ys[j]?=some y->F x y
 | _,_,.nil,j,x,y,h,_=>by cases h
 | _,_,.cons r t,0,x,y,h,h'=>by
   cases yaT h
   cases yaT h'
   exact r
 | _,_,.cons r t,j+1,x,y,h,h'=>zlu t (j:=j) h h'
def zlv (en:DictEntry) (p:V×V):HO:=if zfM [p.1,p.2]=true then .tup [p.1,p.2] else .frz (zpd en) (.tup [p.1,p.2])
abbrev ztc (H H1:Hp) (ts:List Addr) (ps:List (V×V)):Prop:=Paired (λ(t:Addr) (p:V×V)=>H t=none/\TupAt H1 t [p.1,p.2]) ts ps
abbrev zvW (H:Hp) (Q:VK) (ps:List (V×V)):Prop:=∀ p ts H1,Exs H H1->H1 p=none->ztc H H1 ts ps->Q (.ref p) (upd H1 p (.lst (ts.map V.ref)))
theorem Sep.grow {K:PySem.W.Frag} {H H2:Hp} {L:List (V×M)} (h:Sep K H L) (ex:Exs H H2):∃ G G2,Opn K H L G/\Opn K H2 L G2/\Ex G G2/\(∀ t o,H t=none->H2 t=some o->G2 t=some o)/\∀ b vs,H b=some (.tup vs)->G b=some (.tup vs):=by
 obtain ⟨F,nd,q⟩:=h
 have exG:Ex (hid H F) (hid H2 F):=.of λa o e=>by
  by_cases z:a∈F
  ·rw [zfN z] at e
   cases e
  ·rw [zdc z] at e ⊢
   exact ex a o e
 have q2:Helds K (hid H2 F) H2 L F:=q.mono exG λa z=>by
  obtain ⟨u,hu⟩:=q.there a z
  rw [ex a u hu,hu]
 refine ⟨_,_,Sep.opnF nd q,Sep.opnF nd q2,exG,λt o n e => ?_,λb vs e => ?_⟩
 ·rw [zdc (zg4 q n)]
  exact e
 ·rw [zdc λz=>q.noTup b z vs e]
  exact e
section
variable {K:PySem.W.Frag} {G G2 H H2:Hp}
theorem zrt {ts:List Addr} {ps:List (V×V)} {kds:List (D×D)} (f:ztc H H2 ts ps) (ex:Ex G G2) (nw:∀ t o,H t=none->H2 t=some o->G2 t=some o) (r:Paired (λ(p:V×V) (q:D×D)=>Rep K G p.1 q.1/\Rep K G p.2 q.2) ps kds):Reps K G2 (ts.map V.ref) (kds.map λq=>.tup [q.1,q.2]):=by
 induction f generalizing kds with
 | nil =>
   cases r
   exact .nil
 | cons h _ ih =>
   cases r with
   | cons r rs =>
     obtain ⟨n,o,h,t⟩:=h
     exact .cons (.tup ⟨o,nw _ _ n h,t⟩ (.cons (r.1.mono ex) (.cons (r.2.mono ex) .nil))) (ih rs)
end
open R
end VW
namespace VW
open PySem PySem.Spec PyProof.Rows L2
def zmD (ds:List D) (q:M->Prop):Prop:=match D.pys ds with
 | some ps=>zfi ps=true/\q (.lst (zfh ds))
 | none=>False
def zfk:OPN:=λms q=>one ms λm=>match m.d with
 | .lst ds=>zmD ds q
 | .tup ds=>zmD ds q
 | _=>False
def zqj (K:PySem.W.Frag):List V->Hp->VK->Prop:=λxs H Q=>∃ a vs ps,xs=[V.ref a]/\SqT K H a vs/\DpAll K H vs ps/\zfi ps=true/\∀ p,H p=none->Q (.ref p) (upd H p (.lst (((vs.zip ps).mergeSort (PySem.W.dataLe false (·.2))).map (·.1))))
section
variable {X:Cx} {K:PySem.W.Frag}
theorem znJ (hu:X.A.units+64<cLine):CallR X (.builtin "sorted") (zqj X.K):=by
 intro pins s σ H xs us Q I r ⟨a,vs,ps,ex,hs,hd,ok,q⟩
 subst ex
 obtain ⟨its,rv,⟨o,ho,hc,n,hdat⟩,hz⟩:=I.tuple hs
 rw [Vals.ref1 r]
 have len:vs.length=its.length:=Vals.length rv
 refine Calls.call_function_entry PyProof.Rows.kind_sorted PyProof.Rows.plain_sorted PyProof.Rows.entry_sorted (PyProof.Rows.args_sorted1 _) ?_
 unfold Builtin.«sorted»
 refine wpAny_bind (m:=checkCount "sorted" 1 1 _) (wpAny_pure ?_)
 refine wpAny_bind (wpAny_collect_seq (T := "tuple") a (.inr rfl) ho hc hdat (λh' hk => ?_) (by rw [yaW]; omega))
 refine wpAny_bind (wpAny_newList ?_ (by simp only [ycg]; omega))
 have I0:Inv X pins σ H { s with heap:=h' }:=I.kept (t':=s.toks) hk
 have fin:=zta (acc:=its.toArray.toList) hu I0 rv hd hz ok q
 refine wpAny_bind (wpAny_holding (wpAny_mono fin (λ_ s' x => ?_) λ_ _ e=>e))
 exact wpAny_pure ⟨_,rfl,x⟩
abbrev zxn (K:PySem.W.Frag):List V->Hp->VK->Prop:=λxs H Q=>rSort K xs H Q\/zqj K xs H Q
theorem zik (hu:X.A.units+64<cLine):CallR X (.builtin "sorted") (zxn X.K):=CallR.or (zsN hu) (znJ hu)
theorem zlw {ds:List D} {q q':M->Prop} (h:∀ m,q m->q' m) (k:zmD ds q):zmD ds q':=by
 unfold zmD at *
 split at k
 ·exact ⟨k.1,h _ k.2⟩
 ·exact k.elim
theorem zg8:SndN K (zxn K) zfk where
 run:=λG H xs ms Q ex ow q=>by
  obtain ⟨v,m,rfl,rfl,⟨F,w⟩,q⟩:=zcx ow q
  split at q
  ·rename_i ds e
   unfold zmD at q
   split at q
   ·rename_i ps ep
    obtain ⟨a,vs,rfl,h1,r1⟩:=zbA ex w e
    exact .inl ⟨a,vs,ps,rfl,.of h1,Reps.dp ex r1 ep,q.1,λp n=>q.2 _ _ (.lst n (znv r1 ep))⟩
   ·exact q.elim
  ·rename_i ds e
   unfold zmD at q
   split at q
   ·rename_i ps ep
    obtain ⟨a,vs,rfl,h1,r1⟩:=zfx ex w e
    exact .inr ⟨a,vs,ps,rfl,h1.sqT,Reps.dp ex r1 ep,q.1,λp n=>q.2 _ _ (.lst n (znv r1 ep))⟩
   ·exact q.elim
  ·exact q.elim
 mono:=λa q q' h k=>zbv (λm k=>by
  split at k
  ·exact zlw h k
  ·exact zlw h k
  ·exact k.elim) k
end
open R
def zeG (ds:List D):R (List D):=(ofO (D.pys ds)).bind λps=>need (zfi ps) (.ok (zfh ds))
def zdM (a:D):R (List D):=match a with
 | .lst ds=>zeG ds
 | .tup ds=>zeG ds
 | _=>.no
section
variable {β:Type} {P:β->Prop} {XP:Xn->Prop} {ma:M} {k:M->Prop}
theorem zqk {ds:List D} {f:List D->R β} (h:((zeG ds).bind f).post P XP) (q:∀ v,(f v).post P XP->k (.lst v)):zmD ds k:=by
 unfold zeG at h
 obtain ⟨ps,e1,h⟩:=zbf h
 obtain ⟨c,h⟩:=za7 h
 unfold zmD
 try rw [e1]
 exact ⟨c,q _ h⟩
theorem zj9 {f:List D->R β} (h:((zdM ma.d).bind f).post P XP) (q:∀ v,(f v).post P XP->k (.lst v)):zfk [ma] k:=by
 unfold zdM at h
 unfold zfk one
 try dsimp only
 split at h
 ·rename_i e
  try rw [e]
  exact zqk h q
 ·rename_i e
  try rw [e]
  exact zqk h q
 ·exact h.elim
end
end VW
namespace VW
open PySem PySem.Spec PyProof.Rows L2 R
def idxV (y:V):List V->Option Nat
 | []=>none
 | z::zs=>if eqV z y=true then some 0 else (idxV y zs).map (· + 1)
def opLIx:M->OPN:=λm ms q=>one ms λa=>match m.d with
 | .lst ds=>match zeV a.d,zeC ds with
   | some y,some ys=>(match idxV y ys with
     | some j=>q (.fz (.int (j:Nat)))
     | none=>False)
   | _,_=>False
 | _=>False
def nLIx (a b:D):R D:=match a with
 | .lst ds=>match zeV b,zeC ds with
   | some y,some ys=>(match idxV y ys with
     | some j=>.ok (.int (j:Nat))
     | none=>.no)
   | _,_=>.no
 | _=>.no
section
variable {β:Type} {P:β->Prop} {XP:Xn->Prop} {ma mb:M} {k:M->Prop}
theorem zyK {ds:List D} {QI:List D->En->Prop} {e:En} (h:zno ma.d=some ds) (q:QI ds e):itK ma QI e:=by
 unfold itK
 rw [h]
 exact q
end
end VW
namespace L2
open PySem PySem.Spec PyProof.Rows
end L2
namespace VW
open PySem PySem.Spec PyProof.Rows L2 R
def zhI:List D->Option (List Int)
 | []=>some []
 | .int i::ds=>(zhI ds).map (i :: ·)
 | _=>none
section
variable {X:Cx} {K:PySem.W.Frag} {a:Expr} {p p2 q pos:Pos}
theorem zgy {G:Hp}:∀ {vs:List V} {ds:List D} {is:List Int},Reps K G vs ds->zhI ds=some is->vs=is.map V.int
 | _,_,_,.nil,e=>by cases e; rfl
 | _,_,_,.cons (d:=d) (ds:=ds) h r,e=>by
   cases d<;>first | cases e | skip
   unfold zhI at e
   obtain ⟨js,e1,rfl⟩:=yaP.mp e
   cases h
   rw [zgy r e1]
   rfl
end
theorem zka {W:WE} {m:M} {e e':En} {Q:M->En->Prop} {X:XQ} (h:∀ Q:M->En->Prop,Q m e'->W e Q X) (q:Q m e'):W e Q X:=h Q q
section
variable {y:Y} {κ:List (Nat×V)} {a b c:Expr} {wa wb wc:WE}
theorem ypar2 (i j:Nat) {x x':Str} {px py pt pos:Pos} {kt k2:Nat} {pt2:Pos} (ha:SE y a wa) (hb:SE y b wb) (hN:y.X.N.Nodup) (hi:y.X.N[i]?=some x:=by rfl) (hj:y.X.N[j]?=some x':=by rfl) (hij:i≠j:=by decide)
 (hx:y.X.env.scope.names.lookup x=some .local:=by rfl) (hy:y.X.env.scope.names.lookup x'=some .local:=by rfl) (hc:y.X.calm=true:=by exact rfl)
 (st:starEach [a,b] y.X.env=(false,eval a y.X.env)::starEach [b] y.X.env:=by rfl) (st2:starEach [b] y.X.env=(false,eval b y.X.env)::starEach [] y.X.env:=by rfl)
 (hw:swappedStores [.Tuple [.Name x px,.Name x' py] kt pt] (.Tuple [a,b] k2 pt2) y.X.env=pure (some [x,x']):=by rfl)
 (hs:swapsWithSole [.Tuple [.Name x px,.Name x' py] kt pt] (.Tuple [a,b] k2 pt2) pos.line y.X.env=pure false:=by rfl) (hκ:∀ p∈κ,p.1∉(Tg.tp [.nm i,.nm j]).slots:=by exact zjY rfl) :
 SS y κ (.Assign [.Tuple [.Name x px,.Name x' py] kt pt] (.Tuple [a,b] k2 pt2) pos) (sAsg (.tp [.nm i,.nm j]) (wN zbr (zae (oFz wa) (zae (oFz wb) aNil)))) where
 run:=zeB (ps_par hc hN hi hj hij hx hy (zd4 (zah ha) (zd4 (zah hb) zad st2) st).run hw hs) λD σ H ⟨e,P,hk,h0,q⟩=>by
  refine ⟨e,P,h0,ha.mono _ _ _ _ _ (λm1 e1 q=>hb.mono _ _ _ _ _ (λm2 e2 q vs H1 o => ?_) (λ_ _ q c d H' r o=>q σ c d H' hk r o) q) (λ_ _ q c d H' r o=>q σ c d H' hk r o) q⟩
  obtain ⟨o,p⟩:=o
  match vs,p with
  | [v,w],_ =>
    refine ⟨v,w,rfl,?_⟩
    have q:(lend y κ P D).nx ((e2.set i (some (.fz m1.d))).set j (some (.fz m2.d))):=q
    have o1:Ok y.X.K H1 σ e2 ((w,.fz m2.d)::(v,.fz m1.d)::P):=o
    have o2:=zfg i (o1.perm (List.Perm.swap _ _ _))
    exact q _ H1 ((hk.set λp hp e=>hκ p hp (by rw [e]; exact yaa)).set λp hp e=>hκ p hp (by rw [e]; exact yab _ yaa)) (zfg j o2)
 mono:=znl (zaY (k:=k2) (pos:=pt2) (zd4 (zah ha) (zd4 (zah hb) zad st2) st)).mono
end
def zvX:OPN:=λms q=>one ms λm=>match m.d with
 | .lst ds=>(match zhI ds with
   | some is=>q (.fz (.int is.sum))
   | none=>False)
 | _=>False
def zlx:OPN:=λms q=>one ms λm=>match m with
 | .fz (.int i)=>q (.fz (.int i))
 | .fz (.bl b)=>q (.fz (.int (if b then 1 else 0)))
 | _=>False
def iStr (i:Int):Str:=toString i
def opStrI:OPN:=λms q=>one ms λm=>match m with
 | .fz (.int i)=>i.natAbs.log2<1920/\q (.fz (.str (iStr i)))
 | _=>False
def zyL:OPN:=λms q=>one ms λm=>match m with
 | .fz (.int i)=>q (.fz (.int (if i<0 then -i else i)))
 | _=>False
section
variable {K:PySem.W.Frag}
theorem ztd:SndN K (rSum K) zvX where
 run:=λG H xs ms Q ex ow q=>by
  obtain ⟨v,m,rfl,rfl,⟨F,w⟩,q⟩:=zcx ow q
  split at q
  ·rename_i ds e
   split at q
   ·rename_i is ei
    obtain ⟨a,vs,rfl,h1,r1⟩:=zbA ex w e
    have ev:=zgy r1 ei
    subst ev
    exact ⟨a,is,rfl,.of h1,q _ _ (.same (.int _))⟩
   ·exact q.elim
  ·exact q.elim
 mono:=λa q q' h k=>zbv (λm k=>by
  split at k
  ·split at k
   ·exact h _ k
   ·exact k.elim
  ·exact k.elim) k
theorem zjw:SndN K (λxs H Q=>(∃ i,xs=[.int i]/\Q (.int i) H)\/∃ k,xs=[.bl k]/\Q (.int (if k then 1 else 0)) H) zlx where
 run:=λG H xs ms Q ex ow q=>by
  obtain ⟨v,m,rfl,rfl,⟨F,w⟩,q⟩:=zcx ow q
  split at q
  ·cases w with
   | fz w =>
     cases w
     exact .inl ⟨_,rfl,q _ _ (.same (.int _))⟩
  ·cases w with
   | fz w =>
     cases w
     exact .inr ⟨_,rfl,q _ _ (.same (.int _))⟩
  ·exact q.elim
 mono:=λa q q' h k=>zbv (λm k=>by
  split at k
  ·exact h _ k
  ·exact h _ k
  ·exact k.elim) k
theorem zyM:SndN K (λxs H Q=>∃ i:Int,xs=[.int i]/\Q (.int (if i<0 then -i else i)) H) zyL where
 run:=λG H xs ms Q ex ow q=>by
  obtain ⟨v,m,rfl,rfl,⟨F,w⟩,q⟩:=zcx ow q
  split at q
  ·cases w with
   | fz w =>
     cases w
     exact ⟨_,rfl,q _ _ (.same (.int _))⟩
  ·exact q.elim
 mono:=λa q q' h k=>zbv (λm k=>by
  split at k
  ·exact h _ k
  ·exact k.elim) k
end
def nSum (a:D):R D:=match a with
 | .lst ds=>(ofO (zhI ds)).bind λis=>.ok (.int is.sum)
 | _=>.no
def zk6 (a:D):R D:=match a with
 | .int i=>.ok (.int i)
 | .bl b=>.ok (.int (if b then 1 else 0))
 | _=>.no
def nStrI (a:D):R D:=match a with
 | .int i=>need (decide (i.natAbs.log2<1920)) (.ok (.str (iStr i)))
 | _=>.no
def zyN (a:D):R D:=match a with
 | .int i=>.ok (.int (if i<0 then -i else i))
 | _=>.no
section
variable {β:Type} {P:β->Prop} {XP:Xn->Prop} {ma:M} {k:M->Prop}
theorem d_bl1 {m:M} {b:Bool} (h:m.d=.bl b):m=.fz (.bl b):=by
 cases m<;>first | cases h | skip
 all_goals first | rfl | (cases h)
theorem k_sum {f:D->R β} (h:((nSum ma.d).bind f).post P XP) (q:∀ v,(f v).post P XP->k (.fz v)):zvX [ma] k:=by
 unfold nSum at h
 show (match ma.d with
  | .lst ds=>(match zhI ds with
    | some is=>k (.fz (.int is.sum))
    | none=>False)
  | _=>False)
 split at h
 ·rename_i e
  try rw [e]
  try dsimp only
  obtain ⟨bs,e,h⟩:=zbf h
  try rw [e]
  exact q _ h
 ·exact h.elim
theorem zql {f:D->R β} (h:((zk6 ma.d).bind f).post P XP) (q:∀ v,(f v).post P XP->k (.fz v)):zlx [ma] k:=by
 unfold zk6 at h
 split at h
 ·rename_i e
  rw [zfY e]
  exact q _ h
 ·rename_i e
  rw [d_bl1 e]
  exact q _ h
 ·exact h.elim
theorem k_abs1 {f:D->R β} (h:((zyN ma.d).bind f).post P XP) (q:∀ v,(f v).post P XP->k (.fz v)):zyL [ma] k:=by
 unfold zyN at h
 split at h
 ·rename_i e
  rw [zfY e]
  exact q _ h
 ·exact h.elim
end
def tyT (x:V) (H:Hp):Prop:=∃ (p:Addr) (o:Obj) (vs:List V),x=.ref p/\H p=some (.frz o (.tup vs))/\o.cls=.type "tuple" /\ o.dict=none
def tBMT (r:V->List V->Hp->VK->Prop) (to:TE) (t:TA):TE:=λσ H Q=>to σ H λx H1=>tyT x H1/\t σ H1 λxs H2=>r x xs H2 Q
section
variable {X:Cx} {o e:Expr} {es:List Expr} {to:TE} {t:TA} {name:Str} {apos cpos:Pos} {T id:String} {r:V->List V->Hp->VK->Prop}
theorem tyT_is {pins:List (Addr×Obj)} {σ:L2.St} {H:Hp} {s:Shared} {x:V} {v:Value} (I:Inv X pins σ H s) (rv:RelV x v) (ty:tyT x H):s.TypeIs v "tuple" /\ ∀ a,v=.ref a->∃ ob,s.heap.get? a=some ob/\ob.dict=none:=by
 obtain ⟨p,ob,vs,rfl,hp,hc,hd⟩:=ty
 cases rv
 have e:s.heap.get? p=some ob:=(I.hok p _ hp).1
 exact ⟨⟨ob,e,hc⟩,λa z=>by cases z; exact ⟨ob,e,hd⟩⟩
theorem pe_bmT (pa:PlainAttrs "tuple") (slot:Slot "tuple" name id) (hty:typeOf (.builtin id)=pure (.type "method_descriptor")) (hm:MtR X id r) (ho:PE X o to) (ha:PA X (e::es) t)
 (hbase:attributeBase o name X.env (eval o X.env)=eval o X.env:=by rfl)
 (hfew:((backTo cpos (starEach (e::es) X.env)).all (λx => !x.1)&&(backToKw cpos (keywordEach [] X.env)).all (λx=>x.1.isSome)
  && decide ((e::es).length+([]:List Keyword).length+(if ([]:List Keyword).isEmpty then 0 else 1)<30))=true:=by rfl)
 (hline:(apos.endLine==cpos.line)=true:=by rfl) (hs:starEach (e::es) X.env=(false,eval e X.env)::starEach es X.env:=by rfl) (hplain:(backTo cpos (starEach es X.env)).any (·.1)=false:=by rfl) :
 PE X (.Call (.Attribute o name apos) (e::es) [] cpos) (tBMT r to t):=by
 refine ⟨λpins s σ H Q I h => ?_⟩
 refine wpAny_Call_method_late hbase hfew hline rfl (thn (ho.run pins s σ H _ I h) λv s1 ⟨x,H1,I1,r1,ty,q1⟩ => ?_)
 obtain ⟨h1,h2⟩:=tyT_is I1 r1 ty
 refine ⟨"tuple",id,pa,slot,hty,h1,h2,?_⟩
 have hA:=ha.run cpos pins s1 σ H1 _ I1 q1
 rw [hs] at hA ⊢
 refine Calls.callWith_builtin (by show (false||(backTo cpos (starEach es X.env)).any (·.1))=false; rw [hplain]<;>rfl) (Calls.evalArgs_plain ?_)
 exact thn hA λus s2 ⟨vs,H2,I2,r2,q2⟩=>hm pins s2 σ H2 x vs v us Q I2 r1 r2 q2
end
def setM (f:Str) (x:V×FM):List (Str×V×FM)->List (Str×V×FM)
 | []=>[(f,x)]
 | (g,z)::fs=>if g=f then (g,x)::fs else (g,z)::setM f x fs
def fvs (fs:List (Str×V×FM)):List (Str×V):=fs.map λx=>(x.1,x.2.1)
theorem zte (f:Str) (x:V×FM):∀ fs:List (Str×V×FM),fvs (setM f x fs)=putF f x.1 (fvs fs)
 | []=>rfl
 | (g,z)::fs=>by
   show fvs (if g=f then (g,x)::fs else (g,z)::setM f x fs)=if g=f then (g,x.1)::fvs fs else (g,z.1)::putF f x.1 (fvs fs)
   by_cases h:g=f
   ·rw [yaw h,yaw h]
    rfl
   ·rw [yaz h,yaz h,← zte f x fs]
    rfl
theorem zhJ (f:Str):∀ {fs:List (Str×V×FM)} {x:V×FM},fs.lookup f=some x->(fvs fs).lookup f=some x.1
 | [],_,h=>by cases h
 | (g,z)::fs,x,h=>by
   show List.lookup f ((g,z.1)::fvs fs)=_
   rw [ybs] at h ⊢
   split at h
   ·rename_i e
    cases h
    rfl
   ·exact zhJ f h
theorem zyO (fs:List (Str×V×FM)):(fvs fs).length=fs.length:=yac _
theorem zkb (f:Str):∀ {fs:List (Str×V×FM)} {z:V×FM} (m:FM),fs.lookup f=some z->fvs (setM f (z.1,m) fs)=fvs fs
 | [],_,_,h=>by cases h
 | (g,w)::fs,z,m,h=>by
   show fvs (if g=f then (g,(z.1,m))::fs else (g,w)::setM f (z.1,m) fs)=_
   rw [ybs] at h
   by_cases e:g=f
   ·rw [show (f==g)=true from ycR.mpr e.symm] at h
    rw [yaw e]
    cases h
    rfl
   ·rw [show (f==g)=false from ybZ.mpr λz=>e z.symm] at h
    rw [yaz e]
    show _::fvs (setM f (z.1,m) fs)=_::fvs fs
    rw [zkb f m h]
section
variable {K:PySem.W.Frag} {G H:Hp}
theorem HeldsF.out {f:Str}:∀ {fs:List (Str×V×FM)} {F:List Addr},HeldsF K G H fs F->∃ F1 F2,F.Perm (F1++F2)/\(∀ x,fs.lookup f=some x->Own0 K G H x.1 x.2 F1)/\∀ u m F3,Own0 K G H u m F3->∃ F',F'.Perm (F3++F2)/\HeldsF K G H (setM f (u,m) fs) F':=by
 intro fs F h
 induction h with
 | nil=>exact ⟨[],[],.refl _,(λx z=>nomatch z),λu m F3 o=>⟨_,.refl _,.cons o .nil⟩⟩
 | cons h r ih =>
   rename_i g v m L F1 F2
   obtain ⟨Fa,Fb,p,o,put⟩:=ih
   by_cases e:g=f
   ·refine ⟨F1,F2,.refl _,λx z => ?_,λu m' F3 o=>⟨F3++F2,.refl _,?_⟩⟩
    ·rw [ybs,show (f==g)=true from ycR.mpr e.symm] at z
     cases z
     exact h
    ·show HeldsF K G H (if g=f then (g,(u,m'))::L else (g,(v,m))::setM f (u,m') L) _
     rw [yaw e]
     exact .cons o r
   ·refine ⟨Fa,F1++Fb,?_,λx z => ?_,λu m' F3 w => ?_⟩
    ·refine (p.append_left F1).trans ?_
     rw [← yae,← yae]
     exact yaC.append_right _
    ·rw [ybs,show (f==g)=false from ybZ.mpr λz=>e z.symm] at z
     exact o x z
    ·obtain ⟨F',p',h'⟩:=put u m' F3 w
     refine ⟨F1++F',?_,?_⟩
     ·refine (p'.append_left F1).trans ?_
      rw [← yae,← yae]
      exact yaC.append_right _
     ·show HeldsF K G H (if g=f then (g,(u,m'))::L else (g,(v,m))::setM f (u,m') L) _
      rw [yaz e]
      exact .cons h h'
end
section
variable {K:PySem.W.Frag} {H:Hp} {L:List (V×M)} {p C dx:Addr} {fs:List (Str×V×FM)} {f:Str}
theorem zvY {F F':List Addr} (h:F.Perm F'):hid H F=hid H F':=zjQ λa=>h.mem_iff
theorem Sep.fldOut {u:V} {m:FM} (h:Sep K H ((.ref p,.ob C dx fs)::L)) (e:fs.lookup f=some (u,m)):Sep K H ((u,m.m)::(.ref p,.ob C dx (setM f (u,.fz .opq) fs))::L):=by
 obtain ⟨F,nd,q⟩:=h
 cases q with
 | cons h r =>
   rename_i Fi FL
   cases h with
   | ob h hf =>
     rename_i Ff
     obtain ⟨F1,F2,pm,o,put⟩:=hf.out (f:=f)
     obtain ⟨F',p',h'⟩:=put u (.fz .opq) [] (.fz (.opq u))
     have pp:((p::Ff)++FL).Perm (F1++((p::F')++FL)):=by
      have a:(p::Ff).Perm (F1++(p::F')):=(List.Perm.cons p (pm.trans (List.Perm.append_left _ p'.symm))).trans yad.symm
      rw [← yae]
      exact a.append_right _
     refine ⟨F1++((p::F')++FL),pp.nodup nd,?_⟩
     rw [← zvY pp]
     refine .cons (o _ e).own (.cons (.ob ?_ h') r)
     rw [h]
     exact ya8 (λx=>some (HO.ins C dx x)) (zkb f (.fz .opq) e).symm
theorem Sep.fldIn {u:V} {m m':FM} (h:Sep K H ((u,m.m)::(.ref p,.ob C dx fs)::L)) (e:fs.lookup f=some (u,m')):Sep K H ((.ref p,.ob C dx (setM f (u,m) fs))::L):=by
 obtain ⟨F,nd,q⟩:=h
 cases q with
 | cons hu q =>
   rename_i Fu FR
   cases q with
   | cons h r =>
     rename_i Fi FL
     cases h with
     | ob h hf =>
       rename_i Ff
       obtain ⟨F1,F2,pm,o,put⟩:=hf.out (f:=f)
       obtain ⟨F',p',h'⟩:=put u m Fu (.of hu)
       have pp:(Fu++((p::Ff)++FL)).Perm (((p::F')++FL)++F1):=by
        have a:(Fu++(p::Ff)).Perm ((p::F')++F1):=by
         refine yad.trans (List.Perm.cons p ?_)
         refine (pm.append_left Fu).trans ?_
         refine List.Perm.trans ?_ (p'.symm.append_right F1)
         rw [yae]
         exact yaC.append_left _
        rw [← yae]
        refine (a.append_right FL).trans ?_
        rw [yae,yae]
        exact yaC.append_left _
       have nd':=ybg.mp (pp.nodup nd)
       refine ⟨(p::F')++FL,nd'.1,?_⟩
       have le:Ex (hid H (Fu++((p::Ff)++FL))) (hid H ((p::F')++FL)):=zjn λa z=>pp.mem_iff.mpr (yai _ z)
       refine .cons (.ob ?_ (h'.mono le λ_ _=>rfl)) (r.mono le λ_ _=>rfl)
       rw [h]
       exact ya8 (λx=>some (HO.ins C dx x)) (zkb f m e).symm
theorem Sep.fldPut {u:V} {m:FM} (h:Sep K H ((u,m.m)::(.ref p,.ob C dx fs)::L)):Sep K (upd H p (.ins C dx (putF f u (fvs fs)))) ((.ref p,.ob C dx (setM f (u,m) fs))::L):=by
 obtain ⟨F,nd,q⟩:=h
 cases q with
 | cons hu q =>
   rename_i Fu FR
   cases q with
   | cons h r =>
     rename_i Fi FL
     cases h with
     | ob h hf =>
       rename_i Ff
       obtain ⟨F1,F2,pm,o,put⟩:=hf.out (f:=f)
       obtain ⟨F',p',h'⟩:=put u m Fu (.of hu)
       have pp:(Fu++((p::Ff)++FL)).Perm (((p::F')++FL)++F1):=by
        have a:(Fu++(p::Ff)).Perm ((p::F')++F1):=by
         refine yad.trans (List.Perm.cons p ?_)
         refine (pm.append_left Fu).trans ?_
         refine List.Perm.trans ?_ (p'.symm.append_right F1)
         rw [yae]
         exact yaC.append_left _
        rw [← yae]
        refine (a.append_right FL).trans ?_
        rw [yae,yae]
        exact yaC.append_left _
       have nd':=ybg.mp (pp.nodup nd)
       have ndp:p∉F'++FL:=(ya9.mp nd'.1).1
       refine ⟨(p::F')++FL,nd'.1,?_⟩
       have le:Ex (hid H (Fu++((p::Ff)++FL))) (hid (upd H p (.ins C dx (putF f u (fvs fs)))) ((p::F')++FL)):=by
        have e2:hid (upd H p (.ins C dx (putF f u (fvs fs)))) ((p::F')++FL)=hid H ((p::F')++FL):=by
         funext a
         by_cases z:a∈(p::F')++FL
         ·rw [zfN z,zfN z]
         ·have ne:a≠p:=λy=>z (by rw [y]; exact yaa)
          rw [zdc z,zdc z,upd_ne ne]
        rw [e2]
        exact zjn λa z=>pp.mem_iff.mpr (yai _ z)
       refine .cons (.ob ?_ (h'.mono le λa z=>upd_ne λy=>ndp (y▸yai _ z))) (r.mono le λa z=>upd_ne λy=>ndp (y▸yag _ z))
       rw [upd_same]
       exact ya8 (λx=>some (HO.ins C dx x)) (zte f (u,m) fs).symm
end
def oFld (C:Addr) (i:Nat) (f:Str):WO:=λe Q _=>match e[i]? with
 | some (some (.ob C' _ fs))=>C'=C/\(match fs.lookup f with
   | some x=>Q (.fd i f x.1) e
   | none=>False)
 | _=>False
theorem so_fld {y:Y} {C:Addr} {i:Nat} {x f:Str} {px pos:Pos} (hc:Cls y.X.K C) (hn:NoAttr y.X.K C f) (hN:y.X.N[i]?=some x) (hv:Vis y.X.env.scope x) (hd:(x==("__debug__" : Str))=false) (hcd:(x==("__classdict__" : Str))=false)
 (hb:attributeBase (.Name x px) f y.X.env (eval (.Name x px) y.X.env)=eval (.Name x px) y.X.env):SO y (.Attribute (.Name x px) f pos) (oFld C i f) where
 run:=zbb (pe_fld (pe_var hN hv hd hcd) hb) λσ H Q ⟨e,P,h0,q⟩=>by
  unfold oFld at q
  split at q
  ·rename_i C' dx fs e1
   obtain ⟨rfl,q⟩:=q
   split at q
   ·rename_i u e2
    obtain ⟨v,ev,hm⟩:=h0.peek e1
    obtain ⟨F,nd,hs⟩:=h0.2
    obtain ⟨F1,w,_⟩:=hs.mem _ hm
    have w:Own y.X.K (hid H F) H v (.ob C' dx fs) F1:=w
    cases w with
    | ob hh _=>exact ⟨_,ev,_,_,_,_,u.1,rfl,hh,hc,hn,zhJ f e2,q _ H ⟨h0,rfl⟩⟩
   ·exact q.elim
  ·exact q.elim
 mono:=λe Q Q' X X' hq hx q=>by
  unfold oFld at *
  split at q
  ·refine ⟨q.1,?_⟩
   have q:=q.2
   split at q
   ·exact hq _ _ q
   ·exact q.elim
  ·exact q.elim
def toF:M->Option FM
 | .fz d=>some (.fz d)
 | .lst ds=>some (.lst ds)
 | .dK kvs=>some (.dK kvs)
 | .dT kvs=>some (.dT kvs)
 | _=>none
theorem zyP:∀ {m:M} {fm:FM},toF m=some fm->m=fm.m
 | .fz _,_,h=>by cases h; rfl
 | .lst _,_,h=>by cases h; rfl
 | .dK _,_,h=>by cases h; rfl
 | .dT _,_,h=>by cases h; rfl
 | .lk _ _ _ _,_,h=>by cases h
 | .dA _ _,_,h=>by cases h
 | .ob _ _ _,_,h=>by cases h
theorem zqm (f:Str):∀ {fs:List (Str×V×FM)},fs.lookup f=none->(fvs fs).lookup f=none
 | [],_=>rfl
 | (g,z)::fs,h=>by
   show List.lookup f ((g,z.1)::fvs fs)=_
   rw [ybs] at h ⊢
   split at h
   ·cases h
   ·exact zqm f h
section
variable {K:PySem.W.Frag} {H:Hp} {σ:L2.St} {e:En} {P:List (V×M)} {i:Nat} {C dx:Addr} {fs:List (Str×V×FM)}
theorem Ok.obj (h:Ok K H σ e P) (e1:e[i]?=some (some (.ob C dx fs))):∃ a,σ[i]?=some (some (.ref a))/\H a=some (.ins C dx (fvs fs)):=by
 obtain ⟨v,ev,hm⟩:=h.peek e1
 obtain ⟨F,nd,hs⟩:=h.2
 obtain ⟨F1,w,_⟩:=hs.mem _ hm
 have w:Own K (hid H F) H v (.ob C dx fs) F1:=w
 cases w with
 | ob hh _=>exact ⟨_,ev,hh⟩
end
def zvZ (f:Str) (p:Nat) (C dx:Addr) (fs:List (Str×V×FM)) (o:Option FM) (E:zd3) (e:En):Prop:=match o with
 | some fm=>∀ u,E.nx (e.set p (some (.ob C dx (setM f (u,fm) fs))))
 | none=>False
def zmE (C:Addr) (p:Nat) (f:Str) (w:WE):WS:=λE e=>w e (λm e1=>match e1[p]? with
 | some (some (.ob C' dx fs))=>C'=C/\fs.length<1000/\zvZ f p C' dx fs (toF m) E e1
 | _=>False) E.ex
theorem zru {C:Addr} {p:Nat} {f:Str} {w:WE} (h:zcp w):zhr (zmE C p f w):=λE E' e l q=>h _ _ _ _ _ (λm e1 q=>by
 split at q
 ·refine ⟨q.1,q.2.1,?_⟩
  have q:=q.2.2
  unfold zvZ at *
  split at q
  ·exact λu=>l.nx _ (q u)
  ·exact q.elim
 ·exact q.elim) l.ex q
theorem ss_fld {y:Y} {κ:List (Nat×V)} {C:Addr} {p:Nat} {x f:Str} {px pos pos':Pos} {e:Expr} {w:WE} (hc:Cls y.X.K C) (hn:NoAttr y.X.K C f) (hN:y.X.N[p]?=some x) (hv:Vis y.X.env.scope x) (hd:(x==("__debug__" : Str))=false) (hcd:(x==("__classdict__" : Str))=false)
 (h:SE y e w) (hs:swapsWith e (some (.Attribute (.Name x px) f pos')) pos.line y.X.env=pure false):SS y κ (.Assign [.Attribute (.Name x px) f pos'] e pos) (zmE C p f w) where
 run:=zeB (ps_fld (pe_var hN hv hd hcd) h.run hs) λD σ H ⟨e,P,hk,h0,q⟩=>⟨e,P,h0,h.mono _ _ _ _ _ (λm e1 q v H1 o1=>by
  split at q
  ·rename_i C' dx fs em
   obtain ⟨rfl,hl,q⟩:=q
   obtain ⟨a,ev,ho⟩:=o1.obj em
   refine ⟨_,ev,a,_,dx,_,rfl,ho,hc,hn,by rw [zyO]; exact hl,?_⟩
   unfold zvZ at q
   split at q
   ·rename_i fm et
    cases zyP et
    obtain ⟨v',ev',om⟩:=o1.take em
    have e3:some (some (V.ref a))=some (some v'):=ev.symm.trans ev'
    cases e3
    have z:Sep y.X.K H1 ((v,fm.m)::(.ref a,.ob _ dx fs)::(prs σ (e1.set p none)++P)):=om.2.perm (yad.trans ((List.Perm.cons _ yad).trans (.swap _ _ _)))
    have z2:=z.fldPut (f:=f)
    have z3:Ok y.X.K _ σ (e1.set p none) ((.ref a,.ob _ dx (setM f (v,fm) fs))::P):=⟨om.1,z2.perm yad.symm⟩
    have z4:=z3.give ev
    rw [ybh] at z4
    exact q v σ _ hk z4
   ·exact q.elim
  ·exact q.elim) (λ_ _ q c d H' r o=>q σ c d H' hk r o) q⟩
 mono:=zru h.mono
section
variable {X:Cx} {CX:CXT} {k:Nat} {f C:Addr} {fd:FuncData} {ps:List Str} {sp:Sp} {E:L2.St->XK} {m:Str} {pos apos:Pos} {e o:Expr} {es:List Expr} {ta:TE} {t:TA}
def ztf (C:Addr) (m:Str) (sp:Sp) (E:L2.St->XK) (ta:TE) (t:TA):TE:=λσ H Q=>ta σ H λx H1=>∃ a dx fs,x=.ref a/\H1 a=some (.ins C dx fs)/\fs.lookup m=none /\
 t σ H1 λvs H2=>sp (x::vs) H2 Q (E σ)
theorem zv0 {pl:Sem Bool} (he:PE X o ta) (c:Cls X.K C) (hm:Meth X.K C m f) (F:FnOk X.prog X.w X.K X.mg X.base CX k f fd ps sp) (hr:Room k X.A) (hb:Binds X.K fd ps []) (hx:∀ σ,PassesAt CX X σ (E σ)) (ha:PA X (e::es) t)
 (hst:starEach (e::es) X.env=(false,eval e X.env)::starEach es X.env) (hpl:(backTo pos (starEach es X.env)).any (·.1)=false)
 (ht:eval (.Call (.Attribute o m apos) (e::es) [] pos) X.env=(do
  let ov ← eval o X.env
  standAt apos.atName
  let (f,first) ← holding [ov] (getMethod ov m pl)
  callWith pos f first (backTo pos (starEach (e::es) X.env)) (backToKw pos (keywordEach [] X.env)))) :
 PE X (.Call (.Attribute o m apos) (e::es) [] pos) (ztf C m sp E ta t):=by
 refine ⟨λpins s σ H Q I h => ?_⟩
 refine PySem.W.methodCall_KW (pl:=pl) (thn (he.run pins s σ H _ I h) λu s1 ⟨x,H1,I1,rx,a,dx,fs,exx,ea,l,q⟩ => ?_) ht
 subst exx
 obtain rfl:u=Value.ref a:=rx
 refine getmeth_ok I1 ea c hm l ?_
 refine PySem.W.callWith_K (first:=[.ref a]) (h₀:=X.base) I.ok.mod.kin hm.kp (thn (ha.run pos pins s1 σ H1 _ I1 q) λus s2 ⟨vs,H2,I2,r,q2⟩=>⟨I2.kIn,?_⟩) hst hpl
 exact run_fnS (us:=.ref a::us) (vs:=.ref a::vs) F hr hb (hx σ) I2 (.cons rfl r) q2
theorem ztg {pl:Sem Bool} (he:PE X o ta) (c:Cls X.K C) (hm:Meth X.K C m f) (F:FnOk X.prog X.w X.K X.mg X.base CX k f fd ps sp) (hr:Room k X.A) (hb:Binds X.K fd ps []) (hx:∀ σ,PassesAt CX X σ (E σ))
 (ht:eval (.Call (.Attribute o m apos) [] [] pos) X.env=(do
  let ov ← eval o X.env
  standAt apos.atName
  let (f,first) ← holding [ov] (getMethod ov m pl)
  callWith pos f first (backTo pos (starEach [] X.env)) (backToKw pos (keywordEach [] X.env)))) :
 PE X (.Call (.Attribute o m apos) [] [] pos) (ztf C m sp E ta tNil):=by
 refine ⟨λpins s σ H Q I h => ?_⟩
 refine PySem.W.methodCall_KW (pl:=pl) (thn (he.run pins s σ H _ I h) λu s1 ⟨x,H1,I1,rx,a,dx,fs,exx,ea,l,q⟩ => ?_) ht
 subst exx
 obtain rfl:u=Value.ref a:=rx
 refine getmeth_ok I1 ea c hm l ?_
 exact PySem.W.callWith_K0 (first:=[.ref a]) I1.kIn hm.kp (run_fnS (us:=[.ref a]) (vs:=[.ref a]) F hr hb (hx σ) I1 (.cons rfl .nil) q)
end
def zjj (C:Addr) (m:Str) (p:Nat) (fn:Fn) (wa:WA):WE:=λe Q X=>(match e[p]? with
 | some (some (.ob C' _ fs))=>C'=C/\fs.lookup m=none
 | _=>False)/\zaI fn (zae (oPk p) wa) e Q X
theorem zqn (i:Nat):ze7 (oPk i):=λe Q Q' X X' hq hx q=>by
 unfold oPk at *
 split at q
 ·exact hq _ _ q
 ·exact q.elim
theorem zly {o:WO} {r:WA} (h:ze7 o) (hr:zfS r):zfS (zae o r):=λe Q Q' X X' hq hx q=>h _ _ _ _ _ (λa e1 q=>hr _ _ _ _ _ (λas e2 q=>hq _ _ q) hx q) hx q
theorem zlz {C:Addr} {m:Str} {p:Nat} {fn:Fn} {wa:WA} (hf:zbm fn.sp) (ha:zfS wa):zcp (zjj C m p fn wa):=λe Q Q' X X' hq hx q=>⟨q.1,zli hf (zly (zqn p) ha) e Q Q' X X' hq hx q.2⟩
theorem znK {y:Y} {C:Addr} {m:Str} {p:Nat} {fn:Fn} {wa:WA} {σ:L2.St} {H:Hp} {Q:VK} (hf:zbm fn.sp) (ha:zfS wa) (h:zgK y (zjj C m p fn wa) σ H Q) :
 ztf C m (spOf y.X.K y.xr fn) (λσ c d H=>y.W c d σ H) (tVar p) (znj y wa) σ H Q:=by
 obtain ⟨e,P,h0,hm,q⟩:=h
 split at hm
 ·rename_i C' dx fs e1
  obtain ⟨rfl,hl⟩:=hm
  obtain ⟨a,ev,ho⟩:=h0.obj e1
  refine ⟨_,ev,a,dx,_,rfl,ho,zqm _ hl,?_⟩
  obtain ⟨e',P',h0',q'⟩:=znm hf (zly (zqn p) ha) (y:=y) (Q:=Q) ⟨e,P,h0,q⟩
  unfold zae at q'
  unfold oPk at q'
  split at q'
  ·rename_i m' e2
   obtain ⟨v',ev',_⟩:=h0'.peek e2
   refine ⟨e',P',h0',ha _ _ _ _ _ (λas e2 q vs H2 o2=>q (.ref a::vs) H2 ⟨?_,ev,o2.2⟩) (λ_ _ q=>q) q'⟩
   have e4:zc9 (.pk p::as) (V.ref a::vs)=zc9 as vs:=yaQ _
   rw [e4]
   exact o2.1
  ·exact q'.elim
 ·exact hm.elim
section
variable {y:Y} {CX:CXT} {k:Nat} {f C:Addr} {fd:FuncData} {ps:List Str} {fn:Fn} {p:Nat} {x m:Str} {px pos apos:Pos} {e:Expr} {es:List Expr} {wa:WA}
theorem zyQ {pl:Sem Bool} (hN:y.X.N[p]?=some x) (hv:Vis y.X.env.scope x) (hd:(x==("__debug__" : Str))=false) (hcd:(x==("__classdict__" : Str))=false) (c:Cls y.X.K C) (hm:Meth y.X.K C m f)
 (F:FnOk y.X.prog y.X.w y.X.K y.X.mg y.X.base CX k f fd ps (spOf y.X.K y.xr fn)) (hr:Room k y.X.A) (hb:Binds y.X.K fd ps []) (hx:∀ σ,PassesAt CX y.X σ (λc d H=>y.W c d σ H)) (hf:zbm fn.sp) (ha:SA y (e::es) wa)
 (hst:starEach (e::es) y.X.env=(false,eval e y.X.env)::starEach es y.X.env) (hpl:(backTo pos (starEach es y.X.env)).any (·.1)=false)
 (ht:eval (.Call (.Attribute (.Name x px) m apos) (e::es) [] pos) y.X.env=(do
  let ov ← eval (.Name x px) y.X.env
  standAt apos.atName
  let (f,first) ← holding [ov] (getMethod ov m pl)
  callWith pos f first (backTo pos (starEach (e::es) y.X.env)) (backToKw pos (keywordEach [] y.X.env)))) :
 SE y (.Call (.Attribute (.Name x px) m apos) (e::es) [] pos) (zjj C m p fn wa) where
 run:=zbb (zv0 (E:=λσ c d H=>y.W c d σ H) (pe_var hN hv hd hcd) c hm F hr hb hx ha.run hst hpl ht) λσ H Q q=>znK hf ha.mono q
 mono:=zlz hf ha.mono
theorem zv1 {pl:Sem Bool} (hN:y.X.N[p]?=some x) (hv:Vis y.X.env.scope x) (hd:(x==("__debug__" : Str))=false) (hcd:(x==("__classdict__" : Str))=false) (c:Cls y.X.K C) (hm:Meth y.X.K C m f)
 (F:FnOk y.X.prog y.X.w y.X.K y.X.mg y.X.base CX k f fd ps (spOf y.X.K y.xr fn)) (hr:Room k y.X.A) (hb:Binds y.X.K fd ps []) (hx:∀ σ,PassesAt CX y.X σ (λc d H=>y.W c d σ H)) (hf:zbm fn.sp)
 (ht:eval (.Call (.Attribute (.Name x px) m apos) [] [] pos) y.X.env=(do
  let ov ← eval (.Name x px) y.X.env
  standAt apos.atName
  let (f,first) ← holding [ov] (getMethod ov m pl)
  callWith pos f first (backTo pos (starEach [] y.X.env)) (backToKw pos (keywordEach [] y.X.env)))) :
 SE y (.Call (.Attribute (.Name x px) m apos) [] [] pos) (zjj C m p fn aNil) where
 run:=zbb (ztg (E:=λσ c d H=>y.W c d σ H) (pe_var hN hv hd hcd) c hm F hr hb hx ht) λσ H Q q=>by
  obtain ⟨v,ev,a,dx,fs,e1,e2,e3,e,P,h0,q⟩:=znK hf (zad (y:=y)).mono q
  exact ⟨v,ev,a,dx,fs,e1,e2,e3,q [] H ⟨h0,trivial⟩⟩
 mono:=zlz hf (zad (y:=y)).mono
end
theorem zkc (f:Str) (x z:V×FM):∀ fs:List (Str×V×FM),setM f x (setM f z fs)=setM f x fs
 | []=>by
   show (if f=f then [(f,x)] else _)=[(f,x)]
   rw [yaw rfl]
 | (g,w)::fs=>by
   show setM f x (if g=f then (g,z)::fs else (g,w)::setM f z fs)=if g=f then (g,x)::fs else (g,w)::setM f x fs
   by_cases h:g=f
   ·rw [yaw h,yaw h]
    show (if g=f then _ else _)=_
    rw [yaw h]
   ·rw [yaz h,yaz h]
    show (if g=f then _ else _)=_
    rw [yaz h,zkc f x z fs]
theorem zhK (f:Str) (x:V×FM):∀ fs:List (Str×V×FM),(setM f x fs).lookup f=some x
 | []=>by
   show List.lookup f [(f,x)]=_
   rw [ybs,show (f==f)=true from beq_self_eq_true f]
 | (g,w)::fs=>by
   show List.lookup f (if g=f then (g,x)::fs else (g,w)::setM f x fs)=_
   by_cases h:g=f
   ·rw [yaw h,ybs,show (f==g)=true from ycR.mpr h.symm]
   ·rw [yaz h,ybs,show (f==g)=false from ybZ.mpr λz=>h z.symm]
    exact zhK f x fs
section
variable {K:PySem.W.Frag} {H:Hp} {σ:L2.St} {e:En} {P:List (V×M)} {i:Nat} {C dx:Addr} {fs:List (Str×V×FM)} {f:Str} {u:V} {m:FM}
theorem Ok.fldOut (h:Ok K H σ e P) (e1:e[i]?=some (some (.ob C dx fs))) (e2:fs.lookup f=some (u,m)):Ok K H σ (e.set i (some (.ob C dx (setM f (u,.fz .opq) fs)))) ((u,m.m)::P):=by
 obtain ⟨a,ev,_⟩:=h.obj e1
 obtain ⟨v',ev',om⟩:=h.take e1
 have e3:some (some (V.ref a))=some (some v'):=ev.symm.trans ev'
 cases e3
 have z:=(om.2.perm yad).fldOut e2
 have z3:Ok K H σ (e.set i none) ((.ref a,.ob C dx (setM f (u,.fz .opq) fs))::(u,m.m)::P):=⟨om.1,z.perm ((List.Perm.swap _ _ _).trans (((List.Perm.cons _ yad.symm)).trans yad.symm))⟩
 have z4:=z3.give ev
 rw [ybh] at z4
 exact z4
theorem Ok.fldIn {m':FM} (h:Ok K H σ e ((u,m.m)::P)) (e1:e[i]?=some (some (.ob C dx fs))) (e2:fs.lookup f=some (u,m')):Ok K H σ (e.set i (some (.ob C dx (setM f (u,m) fs)))) P:=by
 obtain ⟨a,ev,_⟩:=h.obj e1
 obtain ⟨v',ev',om⟩:=h.take e1
 have e3:some (some (V.ref a))=some (some v'):=ev.symm.trans ev'
 cases e3
 have z:=Sep.fldIn (om.2.perm (yad.trans ((List.Perm.cons _ yad).trans (.swap _ _ _)))) e2
 have z3:Ok K H σ (e.set i none) ((.ref a,.ob C dx (setM f (u,m) fs))::P):=⟨om.1,z.perm yad.symm⟩
 have z4:=z3.give ev
 rw [ybh] at z4
 exact z4
end
def zrv (f:Str) (p:Nat) (C dx:Addr) (fs:List (Str×V×FM)) (u:V) (E:zd3) (e:En) (mp:M):Prop:=match toF mp with
 | some fm=>E.nx (e.set p (some (.ob C dx (setM f (u,fm) fs))))
 | none=>False
def zrw (op:M->M->D->(M->Prop)->Prop) (C:Addr) (p:Nat) (f:Str) (m:M) (E:zd3) (a:Opd) (e:En):Prop:=match e[p]? with
 | some (some (.ob C' dx fs))=>C'=C/\(match fs.lookup f with
   | some x=>isPl x.2.m=true/\zaS a (e.set p (some (.ob C dx (setM f (x.1,.fz .opq) fs)))) λmi=>op x.2.m mi m.d λmp=>zrv f p C dx fs x.1 E e mp
   | none=>False)
 | _=>False
def zrx (op:M->M->D->(M->Prop)->Prop) (C:Addr) (p:Nat) (f:Str) (oi:WO) (w:WE):WS:=λE e=>w e (λm e1=>match e1[p]? with
 | some (some (.ob C' _ fs))=>C'=C/\(match fs.lookup f with
   | some x=>oi e1 (λa e2=>(match e2[p]? with
     | some (some (.ob _ _ fs'))=>(match fs'.lookup f with
       | some x'=>x'.1=x.1
       | none=>False)
     | _=>False)/\zrw op C p f m E a e2) E.ex
   | none=>False)
 | _=>False) E.ex
section
variable {y:Y} {κ:List (Nat×V)} {t:TSet} {op:M->M->D->(M->Prop)->Prop} {C:Addr} {p:Nat} {f:Str} {oi:WO} {w:WE} {x:Str} {px ap sp pos:Pos} {ix e:Expr}
theorem zry {K:PySem.W.Frag} (hs:SndP K t op) (hi:ze7 oi) (h:zcp w):zhr (zrx op C p f oi w):=λE E' e l q=>h _ _ _ _ _ (λm e1 q=>by
 split at q
 ·refine ⟨q.1,?_⟩
  have q:=q.2
  split at q
  ·refine hi _ _ _ _ _ (λa e2 q=>⟨q.1,?_⟩) l.ex q
   have q:=q.2
   unfold zrw at *
   split at q
   ·refine ⟨q.1,?_⟩
    have q:=q.2
    split at q
    ·refine ⟨q.1,zaF (λmi q=>hs.mono _ _ _ _ _ (λm q => ?_) q) q.2⟩
     unfold zrv at *
     split at q
     ·exact l.nx _ q
     ·exact q.elim
    ·exact q.elim
   ·exact q.elim
  ·exact q.elim
 ·exact q.elim) l.ex q
theorem zyR (hs:SndP y.X.K t op) (ht:PSet y.X t) (hc:Cls y.X.K C) (hn:NoAttr y.X.K C f) (hN:y.X.N[p]?=some x) (hv:Vis y.X.env.scope x) (hd:(x==("__debug__" : Str))=false) (hcd:(x==("__classdict__" : Str))=false)
 (hb:attributeBase (.Name x px) f y.X.env (eval (.Name x px) y.X.env)=eval (.Name x px) y.X.env) (hi:SO y ix oi) (h:SE y e w)
 (ha:∀ v,assign (.Subscript (.Attribute (.Name x px) f ap) ix sp) y.X.env v=(do
  let ov ← holding [v] (eval (.Attribute (.Name x px) f ap) y.X.env)
  let iv ← holding [v,ov] (eval ix y.X.env)
  standAt sp
  holding [v,ov,iv] (setItem ov iv v)
  release [v,ov,iv] []))
 (hsw:swapsWithSole [.Subscript (.Attribute (.Name x px) f ap) ix sp] e pos.line y.X.env=pure false) (hw:swappedStores [.Subscript (.Attribute (.Name x px) f ap) ix sp] e y.X.env=pure none)
 (h1:(assignEach [.Subscript (.Attribute (.Name x px) f ap) ix sp] y.X.env).map (·.2)=[assign (.Subscript (.Attribute (.Name x px) f ap) ix sp) y.X.env]):SS y κ (.Assign [.Subscript (.Attribute (.Name x px) f ap) ix sp] e pos) (zrx op C p f oi w) where
 run:=zeB (ps_asg h.run (pg_sub (pe_fld (pe_var hN hv hd hcd) hb) hi.run ht ha) hsw hw h1) λD σ H ⟨e,P,hk,h0,q⟩=>⟨e,P,h0,h.mono _ _ _ _ _ (λm e1 q v H1 o1=>by
  split at q
  ·rename_i C' dx fs em
   obtain ⟨rfl,q⟩:=q
   split at q
   ·rename_i u el
    obtain ⟨a0,ev,ho⟩:=o1.obj em
    refine ⟨_,ev,a0,_,dx,_,u.1,rfl,ho,hc,hn,zhJ f el,e1,(v,.fz m.d)::P,o1.freeze,hi.mono _ _ _ _ _ (λa e2 q iv H2 o2 => ?_) (λx e' q c d H' r o=>q σ c d H' hk r o.pop) q⟩
    obtain ⟨o2,p2⟩:=o2
    obtain ⟨qs,q⟩:=q
    unfold zrw at q
    split at q
    ·rename_i C2 dx2 fs2 em2
     rw [em2] at qs
     obtain ⟨rfl,q⟩:=q
     split at q
     ·rename_i u2 el2
      have qs:(match fs2.lookup f with
       | some x'=>x'.1=u.1
       | none=>False):=qs
      rw [show fs2.lookup f=some u2 from el2] at qs
      have eu:u2.1=u.1:=qs
      obtain ⟨tm,q⟩:=q
      have om:=o2.fldOut em2 el2
      obtain ⟨G1,p1,F1,epr,w1,ex1,oth,up⟩:=(om.2.perm yad).mutR (zsR tm)
      have p2':pkOk σ a iv:=p2
      obtain ⟨mi,ins,q⟩:=za4 om (λp z=>yab _ (yai _ z)) p2 q
      have mem:∀ q,q∈exL (prs σ (e2.set p (some (.ob _ dx2 (setM f (u2.1,.fz .opq) fs2))))++((u2.1,u2.2.m)::(pend a iv++((v,.fz m.d)::P))))->∃ F,Own y.X.K G1 H2 q.1 q.2 F:=λq z=>by
       rcases zjo (zjp (yad (l₁:=prs σ (e2.set p (some (.ob _ dx2 (setM f (u2.1,.fz .opq) fs2)))))) z) with z | z | z
       ·exact ⟨F1,z▸w1⟩
       ·rw [show zoW (u2.1,u2.2.m).2=[] from zjt tm] at z
        exact nomatch z
       ·exact oth q z
      obtain ⟨F2,w2⟩:=mem _ ins
      obtain ⟨F3,w3⟩:=mem (v,.fz m.d) (ziR<|yag _ (yab _ (yag _ yaa)))
      cases w3 with
      | fz w3 =>
        rw [← eu]
        rw [epr] at w1 ⊢
        refine hs.run G1 H2 p1 u2.2.m F1 iv mi F2 v m.d _ ex1 w1 w2 w3 (hs.mono _ _ _ _ _ (λm' q H' mo => ?_) q)
        unfold zrv at q
        split at q
        ·rename_i fm et
         cases zyP et
         refine q σ H' hk ?_
         have z:=(up _ _ mo _ _ w3).tail
         have z':Ok y.X.K H' σ (e2.set p (some (.ob _ dx2 (setM f (u2.1,.fz .opq) fs2)))) ((u2.1,fm.m)::(pend a iv++((v,.fz m.d)::P))):=⟨om.1,z.perm yad.symm⟩
         have hp:p<e2.length:=(yal.mp em2).1
         have z2:=z'.fldIn (i:=p) (by rw [yaM hp]) (zhK f _ fs2)
         rw [ybh,zkc] at z2
         exact (Ok.pops (P:=pend a iv) z2).pop
        ·exact q.elim
     ·exact q.elim
    ·exact q.elim
   ·exact q.elim
  ·exact q.elim) (λ_ _ q c d H' r o=>q σ c d H' hk r o) q⟩
 mono:=zry hs hi.mono h.mono
end
theorem Sep.made {K:PySem.W.Frag} {H:Hp} {L:List (V×M)} {x dx C:Addr} (h:Sep K H L) (n:H x=none) (nd:H dx=none) (ne:dx≠x):Sep K (upd (upd H dx (.own x)) x (.ins C dx [])) ((.ref x,.ob C dx [])::L):=by
 obtain ⟨F,hn,q⟩:=h
 have xF:=zg4 q n
 have dF:=zg4 q nd
 have up:∀ {a:Addr},a≠x->a≠dx->upd (upd H dx (.own x)) x (.ins C dx []) a=H a:=λ{a} h1 h2=>by rw [upd_ne h1,upd_ne h2]
 refine ⟨[x]++F,ya9.mpr ⟨xF,hn⟩,.cons (.ob (fs:=[]) upd_same .nil) (q.mono (.of λa o e => ?_) λa z=>up (λy=>xF (y▸z)) (λy=>dF (y▸z)))⟩
 by_cases z:a∈F
 ·rw [zfN z] at e
  cases e
 ·rw [zdc z] at e
  have ax:a≠x:=ne_of_none e n
  have ad:a≠dx:=ne_of_none e nd
  rw [zdc (by simp [ax,z]),up ax ad]
  exact e
section
variable {X:Cx} {CX:CXT} {k:Nat} {f C:Addr} {fd:FuncData} {ps:List Str} {sp:Sp} {E:L2.St->XK} {x:Str} {p pos:Pos} {e:Expr} {es:List Expr} {t:TA}
def zxo (C:Addr) (sp:Sp) (E:L2.St->XK) (t:TA):TE:=λσ H Q=>t σ H λvs H1=>∀ x dx,H1 x=none->H1 dx=none->dx≠x ->
 sp (.ref x::vs) (upd (upd H1 dx (.own x)) x (.ins C dx [])) (λv H2=>v=.non/\Q (.ref x) H2) (E σ)
theorem zth {pins:List (Addr×Obj)} {σ:L2.St} {H:Hp} {s:Shared} {Q:VK} {us:List Value} {vs:List V} (M:Mk X.K C f) (F:FnOk X.prog X.w X.K X.mg X.base CX k f fd ps sp) (hr:Room (k+1) X.A) (hb:Binds X.K fd ps [])
 (hx:PassesAt CX X σ (E σ)) (I:Inv X pins σ H s) (r:Vals vs us)
 (h:∀ x dx,H x=none->H dx=none->dx≠x->sp (.ref x::vs) (upd (upd H dx (.own x)) x (.ins C dx [])) (λv H2=>v=.non/\Q (.ref x) H2) (E σ)) :
 wpAny (model X.prog X.w) X.A (call (.ref C) us) (EP X pins σ Q) X.xe s:=by
 have hq:=h (s.heap.objs.size+1) s.heap.objs.size (I.hok.fresh (ycS _)) (I.hok.fresh (yaj _)) (ya5 (ycI _))
 have I2:=Inv.made (C:=C) I
 have r2:Vals (V.ref (s.heap.objs.size+1)::vs) (Value.ref (s.heap.objs.size+1)::us):=.cons rfl r
 have hl:(Value.ref (s.heap.objs.size+1)::us).length=ps.length:=by
  have e:=r2.length
  rw [F.len _ _ _ _ hq] at e
  exact e.symm
 have b:=hb _ (Value.ref (s.heap.objs.size+1)::us) I2.kIn (by rw [yaQ]; exact hl)
 rw [yaQ] at b
 refine wpAny_call (make_map (f:=f) I.kIn M.makes M.init (ycR.mp M.fn) (codeAny_mono (F.run _ X.stack _ _ ⟨Value.ref (s.heap.objs.size+1)::us,[]⟩ (Value.ref (s.heap.objs.size+1)::us) _ _ (E σ) (hr.make C us [])
  (I2.env0.make C us []) b r2 hq) λr s' hq' => ?_))
 cases r with
 | error e=>exact hx pins _ _ e s' I2 hq'
 | ok fl =>
   cases fl with
   | ret u =>
     obtain ⟨v,H',I3,rv,ev,q3⟩:=I2.after hq'
     subst ev
     exact ⟨rv,⟨V.ref (s.heap.objs.size+1),H',I3,rfl,q3⟩⟩
   | next=>exact False.elim hq'
   | brk=>exact False.elim hq'
   | cont=>exact False.elim hq'
theorem zv2 (M:Mk X.K C f) (F:FnOk X.prog X.w X.K X.mg X.base CX k f fd ps sp) (hr:Room (k+1) X.A) (hg:Gl X x) (hm:X.mg x=some (.ref C)) (hb:Binds X.K fd ps []) (hx:∀ σ,PassesAt CX X σ (E σ))
 (ha:PA X (e::es) t) (hdb:(x==("__debug__" : Str))=false) (he:starEach (e::es) X.env=(false,eval e X.env)::starEach es X.env) (hpl:(backTo pos (starEach es X.env)).any (·.1)=false) :
 PE X (.Call (.Name x p) (e::es) [] pos) (zxo C sp E t):=by
 refine ⟨λpins s σ H Q I h => ?_⟩
 refine wpAny_Call_Name_kw (ld_glob I hg hm ?_ hdb)
 refine PySem.W.callWith_K (h₀:=X.base) I.ok.mod.kin M.kp (thn (ha.run pos pins s σ H _ I h) λus s1 ⟨vs,H1,I1,r,q⟩=>⟨I1.kIn,?_⟩) he hpl
 exact zth M F hr hb (hx σ) I1 r q
end
def zrz (Q:M->En->Prop) (as:List Opd) (e2:En) (m:M) (ms':En):Prop:=match m,ms' with
 | .fz .non,some m0::rest=>Q m0 (bkAs as rest e2)
 | _,_=>False
theorem zrA {Q Q':M->En->Prop} (h:∀ m e,Q m e->Q' m e) {as:List Opd} {e2:En} {m:M} {ms':En} (q:zrz Q as e2 m ms'):zrz Q' as e2 m ms':=by
 unfold zrz at *
 split at q
 ·exact h _ _ q
 ·exact q.elim
def zrB (C:Addr) (fn:Fn) (wa:WA):WE:=λe Q X=>wa e (λas e1=>mvAs as e1 λms e2=>ms.length+1=fn.n/\∀ dx,fn.sp (.ob C dx []::ms) (λm ms'=>zrz Q as e2 m ms') (λx=>X x e2)) X
theorem zrC {C:Addr} {fn:Fn} {wa:WA} (hf:zbm fn.sp) (ha:zfS wa):zcp (zrB C fn wa):=λe Q Q' X X' hq hx q =>
 ha _ _ _ _ _ (λas e1 q=>zhx (λms e2 q=>⟨q.1,λdx=>hf _ _ _ _ _ (λm e q=>zrA hq q) (λx q=>hx _ _ q) (q.2 dx)⟩) q) hx q
theorem zti {y:Y} {C:Addr} {fn:Fn} {wa:WA} {σ:L2.St} {H:Hp} {Q:VK} (hf:zbm fn.sp) (ha:zfS wa) (h:zgK y (zrB C fn wa) σ H Q) :
 zxo C (spOf y.X.K y.xr fn) (λσ c d H=>y.W c d σ H) (znj y wa) σ H Q:=by
 obtain ⟨e,P,h0,q⟩:=h
 refine ⟨e,P,h0,ha _ _ _ _ _ (λas e1 q vs H1 o x dx nx ndx ne => ?_) (λ_ _ q=>q) q⟩
 obtain ⟨o,p⟩:=o
 obtain ⟨ms,e2,l,o2,hn,q⟩:=zl9 o p q
 have sp:Sep y.X.K H1 (vs.zip ms++(prs σ e2++P)):=o2.2.perm (zfU _ _ _)
 refine ⟨by rw [← hn,l]; rfl,.ob C dx []::ms,prs σ e2++P,ya8 (· + 1) l,sp.made nx ndx ne,hf _ _ _ _ _ (λm ms' q v H' s => ?_) (λx q c d H' r s=>q c d H' r ⟨o2.1,s⟩) (q dx)⟩
 unfold zrz at q
 split at q
 ·rename_i m0 rest
  have hv:v=.non:=by
   obtain ⟨F,_,hs⟩:=s
   cases hs with
   | cons h1 _ =>
     cases h1 with
     | fz h1 =>
       cases h1
       rfl
  refine ⟨hv,q (.ref x) H' ?_⟩
  have s1:Sep y.X.K H' ((.ref x,m0)::(prs (vs.map some) rest++(prs σ e2++P))):=s.tail
  have s':Sep y.X.K H' (prs σ e2++(prs (vs.map some) rest++((.ref x,m0)::P))):=s1.perm (by
   have p1:((V.ref x,m0)::(prs (vs.map some) rest++(prs σ e2++P))).Perm (prs (vs.map some) rest++(prs σ e2++((.ref x,m0)::P))):=by
    refine List.Perm.trans ?_ ((yad.symm).append_left _)
    exact yad.symm
   exact p1.trans (zfU _ _ _))
  exact zjT (as:=as) ⟨o2.1,s'⟩ p
 ·exact q.elim
theorem zyS {y:Y} {CX:CXT} {k:Nat} {f C:Addr} {fd:FuncData} {ps:List Str} {fn:Fn} {x:Str} {p pos:Pos} {e:Expr} {es:List Expr} {wa:WA} (M:Mk y.X.K C f) (F:FnOk y.X.prog y.X.w y.X.K y.X.mg y.X.base CX k f fd ps (spOf y.X.K y.xr fn)) (hr:Room (k+1) y.X.A) (hg:Gl y.X x) (hm:y.X.mg x=some (.ref C))
 (hb:Binds y.X.K fd ps []) (hx:∀ σ,PassesAt CX y.X σ (λc d H=>y.W c d σ H)) (hf:zbm fn.sp) (ha:SA y (e::es) wa) (hdb:(x==("__debug__" : Str))=false) (he:starEach (e::es) y.X.env=(false,eval e y.X.env)::starEach es y.X.env) (hpl:(backTo pos (starEach es y.X.env)).any (·.1)=false) :
 SE y (.Call (.Name x p) (e::es) [] pos) (zrB C fn wa) where
 run:=zbb (zv2 (E:=λσ c d H=>y.W c d σ H) M F hr hg hm hb hx ha.run hdb he hpl) λσ H Q q=>zti hf ha.mono q
 mono:=zrC hf ha.mono
structure ClsD (K:PySem.W.Frag) (mg:Str->Option Value) (x:Str) (C:Addr) (fs:List Str):Prop where
 cls:Cls K C
 at_:mg x=some (.ref C)
 no:∀ f∈fs,NoAttr K C f
def CalM (P:Program) (w:World) (K:PySem.W.Frag) (mg:Str->Option Value) (base:Heap) (xr:Xn->Value->Option Addr->Hp->Prop) (k:Nat) (C:Addr) (m:Str) (fn:Fn):Prop :=
 zbm fn.sp/\∃ f fd ps,FnOk P w K mg base (L2.CX P w) k f fd ps (spOf K xr fn)/\Meth K C m f/\Binds K fd ps []
def CalI (P:Program) (w:World) (K:PySem.W.Frag) (mg:Str->Option Value) (base:Heap) (xr:Xn->Value->Option Addr->Hp->Prop) (k:Nat) (C:Addr) (fn:Fn):Prop :=
 zbm fn.sp/\∃ f fd ps,FnOk P w K mg base (L2.CX P w) k f fd ps (spOf K xr fn)/\Mk K C f/\Binds K fd ps []
section
variable {y:Y} {κ:List (Nat×V)} {pos apos:Pos} {cx f m x:Str} {C:Addr} {fs:List Str} {px:Pos} {e:Expr} {es:List Expr} {wa:WE} {ws:WA}
theorem xfld (p:Nat) (c:ClsD y.X.K y.X.mg cx C fs) (hf:f∈fs:=by decide) (hN:y.X.N[p]?=some x:=by rfl) (hv:Vis y.X.env.scope x:=by first | exact .inl rfl | exact .inr (.inl rfl) | exact .inr (.inr rfl))
 (hd:(x==("__debug__" : Str))=false:=by decide) (hcd:(x==("__classdict__" : Str))=false:=by decide)
 (hb:attributeBase (.Name x px) f y.X.env (eval (.Name x px) y.X.env)=eval (.Name x px) y.X.env:=by rfl):SO y (.Attribute (.Name x px) f pos) (oFld C p f):=so_fld c.cls (c.no f hf) hN hv hd hcd hb
theorem yfld {pos':Pos} (p:Nat) (c:ClsD y.X.K y.X.mg cx C fs) (h:SE y e wa) (hf:f∈fs:=by decide) (hN:y.X.N[p]?=some x:=by rfl) (hv:Vis y.X.env.scope x:=by first | exact .inl rfl | exact .inr (.inl rfl) | exact .inr (.inr rfl))
 (hd:(x==("__debug__" : Str))=false:=by decide) (hcd:(x==("__classdict__" : Str))=false:=by decide)
 (hs:swapsWith e (some (.Attribute (.Name x px) f pos')) pos.line y.X.env=pure false:=by rfl):SS y κ (.Assign [.Attribute (.Name x px) f pos'] e pos) (zmE C p f wa):=ss_fld c.cls (c.no f hf) hN hv hd hcd h hs
theorem ystF {ap sp:Pos} {ix:Expr} {oi:WO} (p:Nat) (c:ClsD y.X.K y.X.mg cx C fs) (h:SE y e wa) (hi:SO y ix oi) (hu:y.X.A.units+64<cLine) (hf:f∈fs:=by decide) (hN:y.X.N[p]?=some x:=by rfl) (hv:Vis y.X.env.scope x:=by first | exact .inl rfl | exact .inr (.inl rfl) | exact .inr (.inr rfl))
 (hd:(x==("__debug__" : Str))=false:=by decide) (hcd:(x==("__classdict__" : Str))=false:=by decide)
 (hb:attributeBase (.Name x px) f y.X.env (eval (.Name x px) y.X.env)=eval (.Name x px) y.X.env:=by rfl)
 (ha:∀ v,assign (.Subscript (.Attribute (.Name x px) f ap) ix sp) y.X.env v=(do
  let ov ← holding [v] (eval (.Attribute (.Name x px) f ap) y.X.env)
  let iv ← holding [v,ov] (eval ix y.X.env)
  standAt sp
  holding [v,ov,iv] (setItem ov iv v)
  release [v,ov,iv] []):=by exact λ_=>rfl)
 (hsw:swapsWithSole [.Subscript (.Attribute (.Name x px) f ap) ix sp] e pos.line y.X.env=pure false:=by rfl) (hw:swappedStores [.Subscript (.Attribute (.Name x px) f ap) ix sp] e y.X.env=pure none:=by rfl)
 (h1:(assignEach [.Subscript (.Attribute (.Name x px) f ap) ix sp] y.X.env).map (·.2)=[assign (.Subscript (.Attribute (.Name x px) f ap) ix sp) y.X.env]:=by rfl):SS y κ (.Assign [.Subscript (.Attribute (.Name x px) f ap) ix sp] e pos) (zrx opSt C p f oi wa) :=
 zyR zxc (zqc hu) c.cls (c.no f hf) hN hv hd hcd hb hi h ha hsw hw h1
theorem xmth {k:Nat} {fn:Fn} {pl:Sem Bool} (p:Nat) (c:ClsD y.X.K y.X.mg cx C fs) (F:CalM y.X.prog y.X.w y.X.K y.X.mg y.X.base y.xr k C m fn) (hr:Room k y.X.A) (ha:SA y (e::es) ws)
 (tk:Takes y.X y.W:=by first | exact takes_of rfl rfl rfl rfl | exact takes0) (hN:y.X.N[p]?=some x:=by rfl) (hv:Vis y.X.env.scope x:=by first | exact .inl rfl | exact .inr (.inl rfl) | exact .inr (.inr rfl))
 (hd:(x==("__debug__" : Str))=false:=by decide) (hcd:(x==("__classdict__" : Str))=false:=by decide)
 (hst:starEach (e::es) y.X.env=(false,eval e y.X.env)::starEach es y.X.env:=by rfl) (hpl:(backTo pos (starEach es y.X.env)).any (·.1)=false:=by rfl)
 (ht:eval (.Call (.Attribute (.Name x px) m apos) (e::es) [] pos) y.X.env=(do
  let ov ← eval (.Name x px) y.X.env
  standAt apos.atName
  let (f,first) ← holding [ov] (getMethod ov m pl)
  callWith pos f first (backTo pos (starEach (e::es) y.X.env)) (backToKw pos (keywordEach [] y.X.env))):=by rfl):SE y (.Call (.Attribute (.Name x px) m apos) (e::es) [] pos) (zjj C m p fn ws):=by
 obtain ⟨hf,f,fd,ps,F,hm,hb⟩:=F
 exact zyQ (pl:=pl) hN hv hd hcd c.cls hm F hr hb (λσ=>passAt tk σ) hf ha hst hpl ht
theorem xmth0 {k:Nat} {fn:Fn} {pl:Sem Bool} (p:Nat) (c:ClsD y.X.K y.X.mg cx C fs) (F:CalM y.X.prog y.X.w y.X.K y.X.mg y.X.base y.xr k C m fn) (hr:Room k y.X.A)
 (tk:Takes y.X y.W:=by first | exact takes_of rfl rfl rfl rfl | exact takes0) (hN:y.X.N[p]?=some x:=by rfl) (hv:Vis y.X.env.scope x:=by first | exact .inl rfl | exact .inr (.inl rfl) | exact .inr (.inr rfl))
 (hd:(x==("__debug__" : Str))=false:=by decide) (hcd:(x==("__classdict__" : Str))=false:=by decide)
 (ht:eval (.Call (.Attribute (.Name x px) m apos) [] [] pos) y.X.env=(do
  let ov ← eval (.Name x px) y.X.env
  standAt apos.atName
  let (f,first) ← holding [ov] (getMethod ov m pl)
  callWith pos f first (backTo pos (starEach [] y.X.env)) (backToKw pos (keywordEach [] y.X.env))):=by rfl):SE y (.Call (.Attribute (.Name x px) m apos) [] [] pos) (zjj C m p fn aNil):=by
 obtain ⟨hf,f,fd,ps,F,hm,hb⟩:=F
 exact zv1 (pl:=pl) hN hv hd hcd c.cls hm F hr hb (λσ=>passAt tk σ) hf ht
theorem xmk {k:Nat} {fn:Fn} {p:Pos} (c:ClsD y.X.K y.X.mg x C fs) (F:CalI y.X.prog y.X.w y.X.K y.X.mg y.X.base y.xr k C fn) (hr:Room (k+1) y.X.A) (ha:SA y (e::es) ws)
 (tk:Takes y.X y.W:=by first | exact takes_of rfl rfl rfl rfl | exact takes0) (hg:Gl y.X x:=by rfl) (hdb:(x==("__debug__" : Str))=false:=by decide)
 (he:starEach (e::es) y.X.env=(false,eval e y.X.env)::starEach es y.X.env:=by rfl) (hpl:(backTo pos (starEach es y.X.env)).any (·.1)=false:=by rfl):SE y (.Call (.Name x p) (e::es) [] pos) (zrB C fn ws):=by
 obtain ⟨hf,f,fd,ps,F,hm,hb⟩:=F
 exact zyS hm F hr hg c.at_ hb (λσ=>passAt tk σ) hf ha hdb he hpl
end
section
variable {P:Program} {w:World} {K:PySem.W.Frag} {mg:Str->Option Value} {base:Heap} {xr:Xn->Value->Option Addr->Hp->Prop} {m qual:Str} {C:Addr} {st:Stmt} {f:Addr} {fd:FuncData} {N ps:List Str} {k:Nat} {kp:List Nat} {wb:WS} {sp:List M->(M->En->Prop)->(Xn->Prop)->Prop}
theorem zmF (F:Fun K m qual st f fd) (hm:Meth K C m f) (hb:Binds K fd ps []) (S:FnScope N ps (defScope st))
 (hb2:∀ cdv A outer s H E vs,vs.length=ps.length->Room k (A.deeper (envOfC qual (defScope st) s.heap.objs.size f cdv))->SSs (yOf P w K mg base xr N qual (defScope st) f cdv A outer s H E) (zbz kp vs) (defBody st) wb)
 (hf:zbm sp) (h:∀ ms Q X,ms.length=ps.length->sp ms Q X->wFn N.length ps.length kp wb ms Q X):CalM P w K mg base xr (k+1) C m ⟨ps.length,kp,sp⟩ :=
 ⟨hf,f,fd,ps,(zvr F S hb2).imp λvs H Q E q=>by
  obtain ⟨hl,ms,R,hm,sp,q⟩:=q
  exact ⟨hl,ms,R,hm,sp,h _ _ _ (hm.trans hl) q⟩,hm,hb⟩
theorem zyT (F:Fun K m qual st f fd) (hm:Mk K C f) (hb:Binds K fd ps []) (S:FnScope N ps (defScope st))
 (hb2:∀ cdv A outer s H E vs,vs.length=ps.length->Room k (A.deeper (envOfC qual (defScope st) s.heap.objs.size f cdv))->SSs (yOf P w K mg base xr N qual (defScope st) f cdv A outer s H E) (zbz kp vs) (defBody st) wb)
 (hf:zbm sp) (h:∀ ms Q X,ms.length=ps.length->sp ms Q X->wFn N.length ps.length kp wb ms Q X):CalI P w K mg base xr (k+1) C ⟨ps.length,kp,sp⟩ :=
 ⟨hf,f,fd,ps,(zvr F S hb2).imp λvs H Q E q=>by
  obtain ⟨hl,ms,R,hm,sp,q⟩:=q
  exact ⟨hl,ms,R,hm,sp,h _ _ _ (hm.trans hl) q⟩,hm,hb⟩
end
def frzK (Q:M->En->Prop) (e:En):M->Prop
 | .fz d=>Q (.fz d) e
 | _=>False
def wOfz (o:WO):WE:=λe Q X=>o e (λa e1=>zaS a e1 (frzK Q e1)) X
theorem zrD {y:Y} {e:Expr} {o:WO} (h:SO y e o):SE y e (wOfz o) where
 run:=zbb h.run λσ H Q ⟨e,P,h0,q⟩=>⟨e,P,h0,h.mono _ _ _ _ _ (λa e1 q v H1 o1=>by
  obtain ⟨o1,p1⟩:=o1
  obtain ⟨m,hm,q⟩:=zb8 o1 p1 q
  cases m with
  | fz d =>
    obtain ⟨G,g⟩:=o1.2.opn
    obtain ⟨F1,w1⟩:=g.ownX _ hm
    cases w1 with
    | fz r=>exact q v H1 (g.fin o1.1 (.same r))
  | lst _=>exact q.elim
  | dK _=>exact q.elim
  | dT _=>exact q.elim
  | lk _ _ _ _=>exact q.elim
  | bx _ _=>exact q.elim
  | dq _=>exact q.elim
  | dA _ _=>exact q.elim
  | ob _ _ _=>exact q.elim) (λ_ _ q=>q) q⟩
 mono:=λe Q Q' X X' hq hx q=>h.mono _ _ _ _ _ (λa e1 q=>zaF (λm q=>by
  cases m with
  | fz d=>exact hq _ _ q
  | lst _=>exact q.elim
  | dK _=>exact q.elim
  | dT _=>exact q.elim
  | lk _ _ _ _=>exact q.elim
  | bx _ _=>exact q.elim
  | dq _=>exact q.elim
  | dA _ _=>exact q.elim
  | ob _ _ _=>exact q.elim) q) hx q
def frz1 (f:Str) (fs:List (Str×V×FM)):List (Str×V×FM):=match fs.lookup f with
 | some x=>setM f (x.1,.fz x.2.m.d) (setM f (x.1,.fz .opq) fs)
 | none=>fs
def frzL:List Str->List (Str×V×FM)->List (Str×V×FM)
 | [],fs=>fs
 | f::ns,fs=>frzL ns (frz1 f fs)
def frzO (ns:List Str):M->M
 | .ob C dx fs=>.ob C dx (frzL ns fs)
 | m=>m
theorem Sep.frz1 {K:PySem.W.Frag} {H:Hp} {L:List (V×M)} {p C dx:Addr} {fs:List (Str×V×FM)} (f:Str) (h:Sep K H ((.ref p,.ob C dx fs)::L)):Sep K H ((.ref p,.ob C dx (VW.frz1 f fs))::L):=by
 unfold VW.frz1
 split
 ·rename_i x e
  have z:=(h.fldOut (u:=x.1) (m:=x.2) e).freeze
  exact Sep.fldIn (m:=.fz x.2.m.d) z (zhK f _ fs)
 ·exact h
theorem Sep.frzL {K:PySem.W.Frag} {H:Hp} {L:List (V×M)} {p C dx:Addr}:∀ {fs:List (Str×V×FM)} (ns:List Str),Sep K H ((.ref p,.ob C dx fs)::L)->Sep K H ((.ref p,.ob C dx (VW.frzL ns fs))::L)
 | _,[],h=>h
 | fs,f::ns,h=>Sep.frzL (fs:=VW.frz1 f fs) ns (h.frz1 f)
theorem Sep.frzO {K:PySem.W.Frag} {H:Hp} {L:List (V×M)} {v:V} {m:M} (ns:List Str) (h:Sep K H ((v,m)::L)):Sep K H ((v,VW.frzO ns m)::L):=by
 cases m with
 | ob C dx fs =>
   have hv:∃ p,v=.ref p:=by
    obtain ⟨F,_,hs⟩:=h
    cases hs with
    | cons h1 _ =>
      cases h1 with
      | ob _ _=>exact ⟨_,rfl⟩
   obtain ⟨p,rfl⟩:=hv
   exact h.frzL ns
 | fz _=>exact h
 | lst _=>exact h
 | dK _=>exact h
 | dT _=>exact h
 | lk _ _ _ _=>exact h
 | bx _ _=>exact h
 | dq _=>exact h
 | dA _ _=>exact h
def wFz (w:WE):WE:=λe Q X=>w e (λm e1=>Q (.fz m.d) e1) X
theorem se_fz {y:Y} {e:Expr} {w:WE} (h:SE y e w):SE y e (wFz w) where
 run:=zbb h.run λσ H Q ⟨e,P,h0,q⟩=>⟨e,P,h0,h.mono _ _ _ _ _ (λm e1 q v H1 o=>q v H1 o.freeze) (λ_ _ q=>q) q⟩
 mono:=λe Q Q' X X' hq hx q=>h.mono _ _ _ _ _ (λm e' q=>hq _ _ q) hx q
section
variable {P:Program} {w:World} {K:PySem.W.Frag} {mg:Str->Option Value} {base:Heap} {xr:Xn->Value->Option Addr->Hp->Prop} {k k':Nat} {C:Addr} {m:Str} {fn:Fn}
theorem CalM.up (h:CalM P w K mg base xr k C m fn) (hk:k<=k'):CalM P w K mg base xr k' C m fn:=by
 obtain ⟨hf,f,fd,ps,F,hm,hb⟩:=h
 exact ⟨hf,f,fd,ps,F.mono hk,hm,hb⟩
theorem CalI.up (h:CalI P w K mg base xr k C fn) (hk:k<=k'):CalI P w K mg base xr k' C fn:=by
 obtain ⟨hf,f,fd,ps,F,hm,hb⟩:=h
 exact ⟨hf,f,fd,ps,F.mono hk,hm,hb⟩
end
section
variable {e:En} {Q:M->En->Prop} {QO:Opd->En->Prop} {X:XQ} {E:zd3} {w:WE} {wa:WA} {o oi:WO} {p:Nat} {f m:Str} {C dx:Addr} {fs:List (Str×V×FM)} {u:V} {fm fm2:FM} {mv:M}
theorem k_fz1 (q:w e (λm e1=>Q (.fz m.d) e1) X):wFz w e Q X:=q
theorem zmG (h:e[p]?=some (some (.ob C dx fs))) (hl:fs.lookup f=some (u,fm)) (q:QO (.fd p f u) e):oFld C p f e QO X:=by
 unfold oFld
 rw [h]
 show C=C/\(match fs.lookup f with
  | some x=>QO (.fd p f x.1) e
  | none=>False)
 rw [hl]
 exact ⟨rfl,q⟩
theorem znL {k:M->Prop} (h:e[p]?=some (some (.ob C dx fs))) (hl:fs.lookup f=some (u,fm)) (q:k fm.m):zaS (.fd p f u) e k:=by
 unfold zaS fdO
 show (match e[p]? with
  | some (some (.ob _ _ fs))=>(match fs.lookup f with
    | some x=>x.1=u/\k x.2.m
    | none=>False)
  | _=>False)
 rw [h]
 show (match fs.lookup f with
  | some x=>x.1=u/\k x.2.m
  | none=>False)
 rw [hl]
 exact ⟨rfl,q⟩
theorem k_of (q:o e (λa e1=>zaS a e1 (frzK Q e1)) X):wOfz o e Q X:=q
def fldQ (C:Addr) (p:Nat) (f:Str) (E:zd3) (m:M) (e1:En):Prop:=match e1[p]? with
 | some (some (.ob C' dx fs))=>C'=C/\fs.length<1000/\zvZ f p C' dx fs (toF m) E e1
 | _=>False
theorem ztj (q:w e (fldQ C p f E) E.ex):zmE C p f w E e:=q
theorem znM (h:e[p]?=some (some (.ob C dx fs))) (hl:fs.length<1000) (hm:toF mv=some fm) (q:∀ u,E.nx (e.set p (some (.ob C dx (setM f (u,fm) fs))))):fldQ C p f E mv e:=by
 unfold fldQ
 rw [h]
 refine ⟨rfl,hl,?_⟩
 rw [hm]
 exact q
theorem znN {fn:Fn} (h:e[p]?=some (some (.ob C dx fs))) (hl:fs.lookup m=none) (q:zaI fn (zae (oPk p) wa) e Q X):zjj C m p fn wa e Q X:=by
 refine ⟨?_,q⟩
 rw [h]
 exact ⟨rfl,hl⟩
theorem k_make {fn:Fn} (q:wa e (λas e1=>mvAs as e1 λms e2=>ms.length+1=fn.n/\∀ dx,fn.sp (.ob C dx []::ms) (λm ms'=>zrz Q as e2 m ms') (λx=>X x e2)) X):zrB C fn wa e Q X:=q
def subQ (op:M->M->VW.D->(M->Prop)->Prop) (C:Addr) (p:Nat) (f:Str) (oi:WO) (E:zd3) (m:M) (e1:En):Prop:=match e1[p]? with
 | some (some (.ob C' _ fs))=>C'=C/\(match fs.lookup f with
   | some x=>oi e1 (λa e2=>(match e2[p]? with
     | some (some (.ob _ _ fs'))=>(match fs'.lookup f with
       | some x'=>x'.1=x.1
       | none=>False)
     | _=>False)/\zrw op C p f m E a e2) E.ex
   | none=>False)
 | _=>False
def subQ2 (op:M->M->VW.D->(M->Prop)->Prop) (C:Addr) (p:Nat) (f:Str) (u:V) (E:zd3) (m:M) (a:Opd) (e2:En):Prop:=(match e2[p]? with
 | some (some (.ob _ _ fs'))=>(match fs'.lookup f with
   | some x'=>x'.1=u
   | none=>False)
 | _=>False)/\zrw op C p f m E a e2
theorem k_sbF {op:M->M->VW.D->(M->Prop)->Prop} (q:w e (subQ op C p f oi E) E.ex):zrx op C p f oi w E e:=q
theorem k_sbQ {op:M->M->VW.D->(M->Prop)->Prop} (h:e[p]?=some (some (.ob C dx fs))) (hl:fs.lookup f=some (u,fm)) (q:oi e (subQ2 op C p f u E mv) E.ex):subQ op C p f oi E mv e:=by
 unfold subQ
 rw [h]
 refine ⟨rfl,?_⟩
 rw [hl]
 exact q
theorem zxp {op:M->M->VW.D->(M->Prop)->Prop} {a:Opd} (h:e[p]?=some (some (.ob C dx fs))) (hl:fs.lookup f=some (u,fm)) (hp:isPl fm.m=true)
 (q:zaS a (e.set p (some (.ob C dx (setM f (u,.fz .opq) fs)))) λmi=>op fm.m mi mv.d λmp=>zrv f p C dx fs u E e mp):subQ2 op C p f u E mv a e:=by
 refine ⟨?_,?_⟩
 ·rw [h]
  show (match fs.lookup f with
   | some x'=>x'.1=u
   | none=>False)
  rw [hl]
 ·unfold zrw
  rw [h]
  refine ⟨rfl,?_⟩
  rw [hl]
  exact ⟨hp,q⟩
theorem k_sbK (hm:toF mv=some fm) (q:E.nx (e.set p (some (.ob C dx (setM f (u,fm) fs))))):zrv f p C dx fs u E e mv:=by
 unfold zrv
 rw [hm]
 exact q
end
example (x y z:V×FM):setM "met" x [("place",y),("met",z)]=([("place",y),("met",x)]:List (Str×V×FM)):=rfl
example (y z:V×FM):List.lookup ("met" : Str) [("place",y),("met",z)]=some z:=rfl
example (y z:V×FM):List.lookup ("over" : Str) [("place",y),("met",z)]=none:=rfl
example (u v:V) (l:List (List Key×VW.D)) (k:List (Key×VW.D)):VW.frzL ["outside"] [("outside",u,.dT l),("met",v,.dK k)]=([("outside",u,.fz (.dT l)),("met",v,.dK k)]:List (Str×V×FM)):=rfl
section
variable {y:Y} {κ:List (Nat×V)} {pos np pos':Pos} {NS NP:List Str} {body suite:List Stmt} {b₀:Stmt} {n nm:Str} {b:WS}
structure InH (K:PySem.W.Frag) (NS:List Str) (x:Xn) (oe:Obj):Prop where
 ns:NS.contains x.cls=true
 cls:oe.cls=.ref (He.ga K x.cls)
 dict:x.fld=none->oe.dict=none
 fld:∃ vs,oe.data=.fields vs
end
structure FnE (P:Program) (w:World) (K:PySem.W.Frag) (mg:Str->Option Value) (base:Heap) (CX:CXT) (k:Nat) (f:Addr) (fd:FuncData) (ps:List Str) (Good:Addr×Obj->Prop) (sp:Addr->Sp):Prop where
 len:∀ a vs H Q E,sp a vs H Q E->vs.length=ps.length
 run:∀ (A:Around) (outer:List Env) (s:Shared) (H:Hp) (args:Args) (us:List Value) (vs:List V) (Q:VK) (E:XK) (p:Addr×Obj),L2H.RoomH k A->Good p->L2H.PinOk outer H s p->Env0 P w K mg base A outer s H->BindsTo s fd args (ps.zip us)->Vals vs us->sp p.1 vs H Q E ->
  codeAny (model P w) A (.call (.ref f) args) (CR CX outer P w H s Q E) s
structure FnX where
 sp:Xn->(M->Prop)->Prop
def spE (K:PySem.W.Frag) (fn:FnX) (x:Xn) (a:Addr):Sp:=λvs H Q _=>vs=[.ref a]/\∃ P,Sep K H P/\fn.sp x (λm=>∀ v H',Sep K H' ((v,m)::P)->Q v H')
def MonoX (fn:FnX):Prop:=∀ x Q Q',(∀ m,Q m->Q' m)->fn.sp x Q->fn.sp x Q'
def CalE (P:Program) (w:World) (K:PySem.W.Frag) (mg:Str->Option Value) (base:Heap) (NS:List Str) (k:Nat) (f:Str) (fn:FnX):Prop :=
 MonoX fn/\∃ fa fd ps,(∀ x,x.fld=none->FnE P w K mg base (L2.CX P w) k fa fd ps (λp=>InH K NS x p.2) (spE K fn x))/\mg f=some (.ref fa)/\PySem.W.keepIn K (.ref fa)=true/\Binds K fd ps []
theorem CalE.up {P:Program} {w:World} {K:PySem.W.Frag} {mg:Str->Option Value} {base:Heap} {NS:List Str} {k k':Nat} {f:Str} {fn:FnX} (h:CalE P w K mg base NS k f fn) (hk:k<=k'):CalE P w K mg base NS k' f fn:=by
 obtain ⟨hx,fa,fd,ps,F,hm,kp,hb⟩:=h
 exact ⟨hx,fa,fd,ps,λx hx=>⟨(F x hx).len,λA outer s H args us vs Q E p hr=>(F x hx).run A outer s H args us vs Q E p (hr.mono hk)⟩,hm,kp,hb⟩
end VW
namespace VW
open PySem PySem.Spec PyProof.Rows L2
def spXI (K:PySem.W.Frag) (C:Addr) (f:Str):Sp:=λvs H Q E=>∃ a v,vs=[.ref a,v]/\OexC K C/\PySem.W.findIn K (.ref C) f=some none/\H a=some (exo a C none) /\
 ∀ dx,H dx=none->dx≠a->Q .non (upd (upd H dx (exd dx [(f,v)])) a (exo a C (some dx)))
def XFd (P:Program) (w:World) (K:PySem.W.Frag) (mg:Str->Option Value) (base:Heap) (k:Nat) (x f:Str):Prop :=
 OexC K (He.ga K x)/\PySem.W.findIn K (.ref (He.ga K x)) f=some none/\∃ fI fd ps,PySem.W.findIn K (.ref (He.ga K x)) "__init__" = some (some (.ref fI))/\PySem.W.typeIn K (.ref fI)=some (.type "function") /\
  FnOk P w K mg base (L2.CX P w) k fI fd ps (spXI K (He.ga K x) f)/\Binds K fd ps []
end VW
namespace VW
open PySem PySem.Spec PyProof.Rows L2 R
abbrev Hd:Type:=Addr×Option Addr
def hdD (h:Hd) (x:Xn):D:=match h.2,x.fld with
 | some dd,some (f,v)=>(match zeV v with
   | some w=>.atx h.1 dd (.xd [(f,w)])
   | none=>.adr h.1)
 | _,_=>.adr h.1
def okHd (h:Hd) (x:Xn):Prop:=match x.fld with
 | none=>h.2=none
 | some (f,v)=>∃ dd w,h.2=some dd/\zeV v=some w
structure InF (K:PySem.W.Frag) (NS:List Str) (x:Xn) (a:Addr) (oe:Obj):Prop where
 ns:NS.contains x.cls=true
 cls:oe.cls=.ref (He.ga K x.cls)
 hd:okHd (a,oe.dict) x
 fld:∃ vs,oe.data=.fields vs
section
variable {K:PySem.W.Frag} {G H:Hp}
def stHd (H:Hp) (h:Hd) (x:Xn):Prop:=match x.fld with
 | none=>h.2=none
 | some (f,v)=>∃ dd w,h.2=some dd/\H dd=some (.xd [(f,w)])/\zeV v=some w
theorem stHd.ok {h:Hd} {x:Xn} (s:stHd H h x):okHd h x:=by
 unfold stHd at s
 unfold okHd
 split at s
 ·exact s
 ·obtain ⟨dd,w,h1,_,h2⟩:=s
  exact ⟨dd,w,h1,h2⟩
end
def spF (K:PySem.W.Frag) (fn:FnX) (x:Xn) (h:Hd):Sp:=λvs H Q _=>vs=[.ref h.1]/\∃ P,Sep K H ((.ref h.1,.fz (hdD h x))::P)/\fn.sp x (λm=>∀ v H',Sep K H' ((v,m)::P)->Q v H')
def CalF (P:Program) (w:World) (K:PySem.W.Frag) (mg:Str->Option Value) (base:Heap) (NS:List Str) (k:Nat) (f:Str) (fn:FnX):Prop :=
 MonoX fn/\∃ fa fd ps,(∀ x d,FnE P w K mg base (L2.CX P w) k fa fd ps (λp=>InF K NS x p.1 p.2/\p.2.dict=d) (λa=>spF K fn x (a,d)))/\mg f=some (.ref fa)/\PySem.W.keepIn K (.ref fa)=true/\Binds K fd ps []
theorem CalF.up {P:Program} {w:World} {K:PySem.W.Frag} {mg:Str->Option Value} {base:Heap} {NS:List Str} {k k':Nat} {f:Str} {fn:FnX} (h:CalF P w K mg base NS k f fn) (hk:k<=k'):CalF P w K mg base NS k' f fn:=by
 obtain ⟨hx,fa,fd,ps,F,hm,kp,hb⟩:=h
 exact ⟨hx,fa,fd,ps,λx d=>⟨(F x d).len,λA outer s H args us vs Q E p hr=>(F x d).run A outer s H args us vs Q E p (hr.mono hk)⟩,hm,kp,hb⟩
theorem XFd.up {P:Program} {w:World} {K:PySem.W.Frag} {mg:Str->Option Value} {base:Heap} {k k':Nat} {x f:Str} (h:XFd P w K mg base k x f) (hk:k<=k'):XFd P w K mg base k' x f:=by
 obtain ⟨h1,h2,fI,fd,ps,h3,h4,F,hb⟩:=h
 exact ⟨h1,h2,fI,fd,ps,h3,h4,⟨F.len,λA outer s H args us vs Q E hr=>F.run A outer s H args us vs Q E (hr.mono hk)⟩,hb⟩
section
variable {prog:Program} {w:World} {A:Around} {E:Value->Shared->Prop} {s:Shared} {z TI TO i1 i2 l1 l2 S:Addr} {xs ys:Array Value}
def ZSt (z TI TO i1 i2 l1 l2 S:Addr) (xs ys:Array Value) (h:Heap) (i:Nat):Prop :=
 (IsPair h TI (.ref i1) (.ref i2)/\h.IsListIter i1 l1 i/\h.IsListIter i2 l2 i/\h.IsList l1 xs/\h.IsList l2 ys) /\
 ((IsZip h z TI TO .none/\∃ a b,IsPair h TO a b)\/∃ T f oT,IsZipHeld h z TI TO T f/\h.get? T=some oT/\T≠z/\T≠i1/\T≠i2/\T≠S)
def KeepZ (z TO i1 i2:Addr) (h h':Heap):Prop:=∀ c o,c≠z->c≠TO->c≠i1->c≠i2->h.get? c=some o->h'.get? c=some o
theorem zpe (D:ZipApart z TI TO i1 i2 l1 l2) (lt:∀ b∈[z,TI,TO,i1,i2,l1,l2],b<S) {h h':Heap} {i:Nat} (st:ZSt z TI TO i1 i2 l1 l2 S xs ys h i) (k:∀ b o,b≠S->h.get? b=some o->h'.get? b=some o):ZSt z TI TO i1 i2 l1 l2 S xs ys h' i:=by
 have ne:∀ b∈[z,TI,TO,i1,i2,l1,l2],b≠S:=λb hb=>ya5 (lt b hb)
 obtain ⟨⟨a1,a2,a3,a4,a5⟩,q⟩:=st
 refine ⟨⟨k _ _ (ne _ (by simp)) a1,a2.at λo e=>k _ o (ne _ (by simp)) e,a3.at λo e=>k _ o (ne _ (by simp)) e,a4.at λo e=>k _ o (ne _ (by simp)) e,a5.at λo e=>k _ o (ne _ (by simp)) e⟩,?_⟩
 rcases q with ⟨q,a,b,q2⟩ | ⟨T,f,oT,q,q2,q3,q4,q5,q6⟩
 ·exact .inl ⟨k _ _ (ne _ (by simp)) q,a,b,k _ _ (ne _ (by simp)) q2⟩
 ·exact .inr ⟨T,f,oT,k _ _ (ne _ (by simp)) q,k _ _ q6 q2,q3,q4,q5,q6⟩
theorem zv3 (D:ZipApart z TI TO i1 i2 l1 l2) (hS:S<s.heap.objs.size) {i:Nat} (st:ZSt z TI TO i1 i2 l1 l2 S xs ys s.heap i) {x y:Value} (hx:xs[i]?=some x) (hy:ys[i]?=some y) {Q:Option Value->Shared->Prop}
 (hQ:∀ h',ZSt z TI TO i1 i2 l1 l2 S xs ys h' (i+1)->IsPair h' s.heap.objs.size x y->h'.objs.size=s.heap.objs.size+1->KeepZ z TO i1 i2 s.heap h'->Q (some (.ref s.heap.objs.size)) { s with heap:=h' }):wpAny (model prog w) A (pyNext (.ref z)) Q E s:=by
 obtain ⟨⟨a1,a2,a3,a4,a5⟩,q⟩:=st
 have n1:s.heap.objs.size≠i1:=by obtain ⟨_,e,_⟩:=a2; exact ya2 (Heap.lt_size e)
 have n2:s.heap.objs.size≠i2:=by obtain ⟨_,e,_⟩:=a3; exact ya2 (Heap.lt_size e)
 rcases q with ⟨q,a,b,q2⟩ | ⟨T,f,oT,q,q2,q3,q4,q5,q6⟩
 ·have n0:s.heap.objs.size≠z:=ya2 (Heap.lt_size q)
  exact wpAny_pyNext_zip_item D q a1 q2 a2 a3 a4 a5 hx hy λh' b1 b2 b3 b4 b5 b6 k=>hQ h'
   ⟨⟨k _ _ D.TIz D.TITO D.TIi1 D.TIi2 a1,b3,b4,a4.at λo e=>k _ o D.l1z D.l1TO D.l1i1 D.l1i2 e,a5.at λo e=>k _ o D.l2z D.l2TO D.l2i1 D.l2i2 e⟩,.inr ⟨_,false,_,b1,b5,n0,n1,n2,ya2 hS⟩⟩ b5 b6 k
 ·exact wpAny_pyNext_zip_item_held D q q2 a1 a2 a3 a4 a5 hx hy λh' b1 b3 b4 b5 b6 k=>hQ h'
   ⟨⟨k _ _ D.TIz D.TIi1 D.TIi2 a1,b3,b4,a4.at λo e=>k _ o D.l1z D.l1i1 D.l1i2 e,a5.at λo e=>k _ o D.l2z D.l2i1 D.l2i2 e⟩,.inr ⟨T,true,oT,b1,k _ _ q3 q4 q5 q2,q3,q4,q5,q6⟩⟩ b5 b6 λc o c1 _ c3 c4 e=>k c o c1 c3 c4 e
theorem zyU (hh:A.handled=none) (D:ZipApart z TI TO i1 i2 l1 l2) {i:Nat} (st:ZSt z TI TO i1 i2 l1 l2 S xs ys s.heap i) (he:xs[i]?=none\/ys[i]?=none) {Q:Option Value->Shared->Prop}
 (hQ:∀ h',KeepZ z TO i1 i2 s.heap h'->Q none { s with heap:=h' }):wpAny (model prog w) A (pyNext (.ref z)) Q E s:=by
 obtain ⟨⟨a1,a2,a3,a4,a5⟩,q⟩:=st
 rcases q with ⟨q,a,b,q2⟩ | ⟨T,f,oT,q,q2,q3,q4,q5,q6⟩
 ·exact wpAny_pyNext_zip_end hh D q a1 q2 a2 a3 a4 a5 he λh' k=>hQ h' k
 ·exact wpAny_pyNext_zip_end_held hh D q q2 a1 a2 a3 a4 a5 he λh' k=>hQ h' λc o c1 _ c3 c4 e=>k c o c1 c3 c4 e
abbrev LstO (acc:Array Value) (c:Nat):Obj:={ cls:=.type "list",dict:=none,data:=.seq acc c,slots:=#[] }
structure LzR (S:Addr) (xs ys:Array Value) (h:Heap) (acc:Array Value) (as:List Addr) (i:Nat):Prop where
 refs:acc.toList=as.map Value.ref
 len:as.length=i
 rise:as.Pairwise (· < ·)
 over:∀ a∈as,S<a/\a<h.objs.size
 pair:∀ (j:Nat) (a:Addr),as[j]?=some a->∃ x y,xs[j]?=some x/\ys[j]?=some y/\IsPair h a x y
theorem LzR.at {h h':Heap} {acc:Array Value} {as:List Addr} {i:Nat} (r:LzR S xs ys h acc as i) (sz:h.objs.size<=h'.objs.size) (k:∀ a,S<a->∀ o,h.get? a=some o->h'.get? a=some o):LzR S xs ys h' acc as i :=
 ⟨r.refs,r.len,r.rise,λa ha=>⟨(r.over a ha).1,yby (r.over a ha).2 sz⟩,λj a ha=>by
  obtain ⟨x,y,e1,e2,e3⟩:=r.pair j a ha
  exact ⟨x,y,e1,e2,k a (r.over a (yaL ha)).1 _ e3⟩⟩
theorem LzR.more {h:Heap} {acc:Array Value} {as:List Addr} {i:Nat} {x y:Value} {n:Addr} (r:LzR S xs ys h acc as i) (up:∀ a∈as,a<n) (hn:S<n/\n<h.objs.size) (hx:xs[i]?=some x) (hy:ys[i]?=some y) (p:IsPair h n x y):LzR S xs ys h (acc.push (.ref n)) (as++[n]) (i+1):=by
 refine ⟨by rw [Array.toList_push,r.refs,yaR]; rfl,by rw [yam,r.len]; rfl,List.pairwise_append.mpr ⟨r.rise,List.pairwise_singleton _ _,λa ha b hb => ?_⟩,λa ha => ?_,λj a ha => ?_⟩
 ·rw [yah.mp hb]
  exact up a ha
 ·rcases yay.mp ha with ha | ha
  ·exact r.over a ha
  ·rw [yah.mp ha]
   exact hn
 ·by_cases c:j<as.length
  ·rw [ybl c] at ha
   exact r.pair j a ha
  ·rw [ybF (by omega)] at ha
   have e0:=(yal.mp ha).1
   rw [List.length_singleton] at e0
   have ej:j=i:=by
    have:=r.len
    omega
   have e1:j-as.length=0:=by omega
   rw [e1] at ha
   have:n=a:=yaT ha
   subst this
   rw [ej]
   exact ⟨x,y,hx,hy,p⟩
theorem ztk {R:Result->Shared->Prop} (hh:A.handled=none) (D:ZipApart z TI TO i1 i2 l1 l2) (lt:∀ b∈[z,TI,TO,i1,i2,l1,l2],b<S) {n:Nat} (en:n=min xs.size ys.size) (hn:n<=sizeLine) (res:Value):∀ (k i:Nat) (s:Shared) (acc:Array Value) (c:Nat) (as:List Addr),i+k=n->ZSt z TI TO i1 i2 l1 l2 S xs ys s.heap i->s.heap.get? S=some (LstO acc c)->LzR S xs ys s.heap acc as i ->
 (∀ h' acc' c' as',(∀ b o,b≠S->b≠z->b≠TO->b≠i1->b≠i2->s.heap.get? b=some o->h'.get? b=some o)->h'.get? S=some (LstO acc' c')->LzR S xs ys h' acc' as' n->R (.ok (.ret res)) { s with heap:=h' }) ->
 codeAny (model prog w) A (.builtin "list.extend.loop" ⟨[.ref S,.ref z,res],[]⟩) R s
 | 0,i,s,acc,c,as,hk,st,hS,r,hR=>by
   have ei:i=n:=hk
   subst ei
   have sl:∀ b∈[z,TI,TO,i1,i2,l1,l2],S≠b:=λb hb=>ya2 (lt b hb)
   refine codeAny_builtin F.entry_extend_loop ?_
   rw [Around.under_plainId F.plain_extend_loop _]
   refine wpAny_bind (zyU (A:=A.in1) hh D st ?_ λh' kp=>wpAny_pure (hR h' acc c as (λb o _ b1 b2 b3 b4 e=>kp b o b1 b2 b3 b4 e) (kp S _ (sl _ (by simp)) (sl _ (by simp)) (sl _ (by simp)) (sl _ (by simp)) hS) ?_))
   ·rcases Nat.le_total xs.size ys.size with q | q
    ·exact .inl (Array.getElem?_eq_none (by omega))
    ·exact .inr (Array.getElem?_eq_none (by omega))
   ·have up:∀ a,S<a->a≠z/\a≠TO/\a≠i1/\a≠i2:=λa ha=>⟨ya2 (ybN (lt z (by simp)) ha),ya2 (ybN (lt TO (by simp)) ha),ya2 (ybN (lt i1 (by simp)) ha),ya2 (ybN (lt i2 (by simp)) ha)⟩
    refine ⟨r.refs,r.len,r.rise,λa ha=>⟨(r.over a ha).1,?_⟩,λj a ha => ?_⟩
    ·obtain ⟨j,hj⟩:=ybo.mp ha
     obtain ⟨x,y,_,_,e3⟩:=r.pair j a hj
     obtain ⟨u1,u2,u3,u4⟩:=up a (r.over a ha).1
     exact Heap.lt_size (kp a _ u1 u2 u3 u4 e3)
    ·obtain ⟨x,y,e1,e2,e3⟩:=r.pair j a ha
     obtain ⟨u1,u2,u3,u4⟩:=up a (r.over a (yaL ha)).1
     exact ⟨x,y,e1,e2,kp a _ u1 u2 u3 u4 e3⟩
 | k+1,i,s,acc,c,as,hk,st,hS,r,hR=>by
   have sl:∀ b∈[z,TI,TO,i1,i2,l1,l2],S≠b:=λb hb=>ya2 (lt b hb)
   have lS:S<s.heap.objs.size:=Heap.lt_size hS
   have hx:=ycs (xs:=xs) (i:=i) (by omega)
   have hy:=ycs (xs:=ys) (i:=i) (by omega)
   have up:∀ a,S<a->a≠z/\a≠TO/\a≠i1/\a≠i2:=λa ha=>⟨ya2 (ybN (lt z (by simp)) ha),ya2 (ybN (lt TO (by simp)) ha),ya2 (ybN (lt i1 (by simp)) ha),ya2 (ybN (lt i2 (by simp)) ha)⟩
   have hi:i+1<=sizeLine:=by omega
   have la:acc.size=i:=by
    rw [← ya3,r.refs,yac]
    exact r.len
   refine codeAny_builtin F.entry_extend_loop ?_
   rw [Around.under_plainId F.plain_extend_loop _]
   refine wpAny_bind (zv3 (A:=A.in1) D lS st hx hy λh1 st1 p1 sz1 kp => ?_)
   have hS1:=kp S _ (sl _ (by simp)) (sl _ (by simp)) (sl _ (by simp)) (sl _ (by simp)) hS
   have r1:=(r.at (h':=h1) (by omega) λa ha o e=>(λ⟨u1,u2,u3,u4⟩=>kp a o u1 u2 u3 u4 e) (up a ha)).more (n:=s.heap.objs.size) (λa ha=>(r.over a ha).2) ⟨lS,by rw [sz1]; exact ycI _⟩ hx hy p1
   refine wpAny_bind ?_
   show wpAny _ A.in1 (updateSeq S (·.push (.ref s.heap.objs.size))) _ _ _
   refine wpAny_updateSeq hS1 rfl (wpAny_pure ⟨plainId_quiet F.plain_extend_loop _,?_⟩) (by rw [la]; exact Nat.le_of_succ_le hi) (by show (acc.push _).size<=sizeLine+1; rw [Array.size_push,la]; exact ycw hi)
   have hS2:=Heap.get?_update_self (Obj.mapSeq (·.push (.ref s.heap.objs.size))) hS1 rfl
   have oth:∀ b o,b≠S->h1.get? b=some o->(h1.update S (Obj.mapSeq (·.push (.ref s.heap.objs.size)))).get? b=some o:=λb o hb e=>(Heap.get?_update_other _ _ (ybR hb)).trans e
   have sz2:(h1.update S (Obj.mapSeq (·.push (.ref s.heap.objs.size)))).objs.size=h1.objs.size:=(Heap.SameBut.update ..).1
   refine ztk hh D lt en hn res k (i+1) _ _ _ _ (by omega) (zpe D lt st1 oth) hS2 (r1.at (Nat.le_of_eq sz2.symm) λa ha o e=>oth a o (ya2 ha) e) λh' acc' c' as' k2 hS3 r3 => ?_
   exact hR h' acc' c' as' (λb o b0 b1 b2 b3 b4 e=>k2 b o b0 b1 b2 b3 b4 (oth b o b0 (kp b o b1 b2 b3 b4 e))) hS3 r3
theorem ztl:typeLookup (.type "zip") "__len__" = pure none:=by rw [typeLookup_type,builtinLookup_eq_fast]; kernel_rfl
theorem zrE:typeLookup (.type "zip") "__length_hint__" = pure none:=by rw [typeLookup_type,builtinLookup_eq_fast]; kernel_rfl
theorem ztm {R:Result->Shared->Prop} (hh:A.handled=none) (D:ZipApart z TI TO i1 i2 l1 l2) (lt:∀ b∈[z,TI,TO,i1,i2,l1,l2],b<S) (st:ZSt z TI TO i1 i2 l1 l2 S xs ys s.heap 0) (hz:IsZip s.heap z TI TO .none) (res:Value) (c0:Nat) (hS:s.heap.get? S=some (zij #[] c0)) (hn:min xs.size ys.size<=sizeLine)
 (fin:∀ h' acc c as,(∀ b o,b≠S->b≠z->b≠TO->b≠i1->b≠i2->s.heap.get? b=some o->h'.get? b=some o)->h'.get? S=some (zij acc c)->LzR S xs ys h' acc as (min xs.size ys.size)->R (.ok (.ret res)) { s with heap:=h' }) :
 wpAny (model prog w) A.in1 (Builtin.List.listExtendWith (.ref S) (.ref z) res)
  (λfin s'=>match fin with | .done f=>R (.ok f) s' | .again c'=>c'.quiet=true/\codeAny (model prog w) A c' R s') (λe s'=>R (.error e) s') s:=by
 have nz:S≠z:=ya2 (lt z (by simp))
 have go:∀ (h:Heap) (c1:Nat),h.objs.size=s.heap.objs.size->(∀ b o,b≠S->s.heap.get? b=some o->h.get? b=some o)->h.get? S=some (zij #[] c1)->codeAny (model prog w) A (.builtin "list.extend.loop" ⟨[.ref S,.ref z,res],[]⟩) R { s with heap:=h }:=by
  intro h c1 sz k hS1
  exact ztk hh D lt rfl hn res _ 0 _ _ _ [] (ya4 _) (zpe D lt st k) hS1 ⟨rfl,rfl,.nil,(λ_ z=>nomatch z),λj a z=>by simp at z⟩ λh' acc' c' as' k2 hS2 r=>fin h' acc' c' as' (λb o b0 b1 b2 b3 b4 e=>k2 b o b0 b1 b2 b3 b4 (k b o b0 e)) hS2 r
 have hT:s.TypeIs (.ref z) "zip" := ⟨_,hz,rfl⟩
 unfold Builtin.List.listExtendWith
 refine wpAny_bind (wpAny_typeOf (T := "zip") hT ?_)
 have e1:Builtin.List.listSameRef (.ref S) (.ref z)=false:=by simp [Builtin.List.listSameRef,nz]
 have e2:(Value.type "zip" == Value.type "list")=false:=by decide
 have e3:(Value.type "zip" == Value.type "tuple")=false:=by decide
 simp only [e1,e2,e3,Bool.or_false,Bool.false_eq_true,if_false]
 refine wpAny_bind (wpAny_pyIter_zip hz ?_)
 refine wpAny_bind (wpAny_holding ?_)
 unfold Builtin.List.listLengthHint
 refine wpAny_bind (wpAny_specialOf hT ztl ?_)
 refine wpAny_bind (wpAny_specialOf hT zrE ?_)
 refine wpAny_pure ?_
 refine wpAny_bind (wpAny_rule ?_)
 refine wpAny_bind ?_
 show wpAny _ _ (updateSeq S (·.push .none) >>= λ_=>updateSeq S (·.pop)) _ _ _
 refine wpAny_bind (wpAny_updateSeq hS rfl ?_)
 have hS2:=Heap.get?_update_self (Obj.mapSeq (·.push Value.none)) hS rfl
 refine wpAny_updateSeq (hz:=by seq_fits) hS2 rfl ?_
 refine wpAny_pure ⟨plainId_quiet PySem.F.plain_extend_loop _,go _ _ ?_ (λb o n e=>(Heap.get?_update_other _ _ (ybR n)).trans ((Heap.get?_update_other _ _ (ybR n)).trans e)) (Heap.get?_update_self (Obj.mapSeq (·.pop)) hS2 rfl)⟩
 exact ((Heap.SameBut.update ..).1).trans (Heap.SameBut.update ..).1
theorem zyV {R:Result->Shared->Prop} (hh:A.handled=none) (D:ZipApart z TI TO i1 i2 l1 l2) (lt:∀ b∈[z,TI,TO,i1,i2,l1,l2],b<S) (st:ZSt z TI TO i1 i2 l1 l2 S xs ys s.heap 0) (hz:IsZip s.heap z TI TO .none) (hS:s.heap.get? S=some { cls:=.type "list",data:=.seq #[] }) (hn:min xs.size ys.size<=sizeLine)
 (fin:∀ h' acc c as,(∀ b o,b≠S->b≠z->b≠TO->b≠i1->b≠i2->s.heap.get? b=some o->h'.get? b=some o)->h'.get? S=some (zij acc c)->LzR S xs ys h' acc as (min xs.size ys.size)->R (.ok (.ret .none)) { s with heap:=h' }) :
 wpAny (model prog w) A.in1 (Builtin.«list.__init__» ⟨[.ref S,.ref z],[]⟩)
  (λfin s'=>match fin with | .done f=>R (.ok f) s' | .again c'=>c'.quiet=true/\codeAny (model prog w) A c' R s') (λe s'=>R (.error e) s') s:=by
 show wpAny _ _ (do let old ← Builtin.List.listItems (.ref S); Builtin.List.listUpdate (.ref S) (λ_ => #[]); letGo old.toList.reverse; Builtin.List.listExtendWith (.ref S) (.ref z) .none) _ _ s
 refine wpAny_bind ?_
 unfold Builtin.List.listItems
 refine wpAny_bind (wpAny_seqItems hS rfl (wpAny_pure ?_))
 show wpAny _ _ (updateSeq S (λ_ => #[]) >>= λ_=>letGo (#[]:Array Value).toList.reverse >>= λ_=>Builtin.List.listExtendWith (.ref S) (.ref z) .none) _ _ s
 refine wpAny_bind (wpAny_updateSeq hS rfl ?_)
 have hS2:=Heap.get?_update_self (Obj.mapSeq (λ_=>(#[]:Array Value))) hS rfl
 have oth:∀ b o,b≠S->s.heap.get? b=some o->(s.heap.update S (Obj.mapSeq (λ_=>(#[]:Array Value)))).get? b=some o:=λb o n e=>(Heap.get?_update_other _ _ (ybR n)).trans e
 refine wpAny_bind (wpAny_letGo ?_)
 exact ztm hh D lt (zpe D lt st oth) (oth z _ (ya5 (lt z (by simp))) hz) .none _ hS2 hn λh' acc c as k=>fin h' acc c as λb o b0 b1 b2 b3 b4 e=>k b o b0 b1 b2 b3 b4 (oth b o b0 e)
theorem zyW {Q:Value->Shared->Prop} (hh:A.handled=none) (D:ZipApart z TI TO i1 i2 l1 l2) (hz:IsZip s.heap z TI TO .none) (hTI:IsPair s.heap TI (.ref i1) (.ref i2)) (hTO:∃ a b,IsPair s.heap TO a b) (h1:s.heap.IsListIter i1 l1 0) (h2:s.heap.IsListIter i2 l2 0) (hl1:s.heap.IsList l1 xs) (hl2:s.heap.IsList l2 ys) (hn:min xs.size ys.size<=sizeLine)
 (fin:∀ h' acc c as,(∀ b o,b≠z->b≠TO->b≠i1->b≠i2->s.heap.get? b=some o->h'.get? b=some o)->h'.get? s.heap.objs.size=some (zij acc c)->LzR s.heap.objs.size xs ys h' acc as (min xs.size ys.size)->Q (.ref s.heap.objs.size) { s with heap:=h' }) :
 wpAny (model prog w) A (call (.type "list") [.ref z]) Q E s:=by
 refine callType_codes (Q₁:=λobj s₁=>obj=.ref s.heap.objs.size/\s₁={ s with heap:=s.heap.push { cls:=.type "list",data:=.seq #[] } }) PySem.F.called_list (PySem.F.typeCall_list_1 _) PySem.F.entry_list_init
  (code_list_new _ ⟨rfl,rfl⟩) λobj s1 q => ?_
 obtain ⟨rfl,rfl⟩:=q
 have hS:(s.heap.push { cls:=.type "list",data:=.seq #[] }).get? s.heap.objs.size=some { cls:=.type "list",data:=.seq #[] }:=Heap.get?_push_size _ rfl
 have up:∀ b o,s.heap.get? b=some o->(s.heap.push { cls:=.type "list",data:=.seq #[] }).get? b=some o:=λb o e=>Heap.get?_push_of_some _ e
 have lt:∀ b∈[z,TI,TO,i1,i2,l1,l2],b<s.heap.objs.size:=λb hb=>by
  obtain ⟨_,_,hTO⟩:=hTO
  obtain ⟨_,f1,_⟩:=h1
  obtain ⟨_,f2,_⟩:=h2
  obtain ⟨_,f3,_⟩:=hl1
  obtain ⟨_,f4,_⟩:=hl2
  simp only [yap,ybb,ycX] at hb
  rcases hb with rfl | rfl | rfl | rfl | rfl | rfl | rfl
  ·exact Heap.lt_size hz
  ·exact Heap.lt_size hTI
  ·exact Heap.lt_size hTO
  ·exact Heap.lt_size f1
  ·exact Heap.lt_size f2
  ·exact Heap.lt_size f3
  ·exact Heap.lt_size f4
 obtain ⟨u,v,hTO⟩:=hTO
 exact ⟨⟨_,hS,rfl⟩,PySem.F.args_list_init_2 _ _,zyV (A:=A.in1) hh D lt ⟨⟨up _ _ hTI,h1.at (up i1),h2.at (up i2),hl1.at (up l1),hl2.at (up l2)⟩,.inl ⟨up _ _ hz,u,v,up _ _ hTO⟩⟩ (up _ _ hz) hS hn λh' acc c as k hS' r =>
  ⟨rfl,fin h' acc c as (λb o b1 b2 b3 b4 e=>k b o (ya5 (Heap.lt_size e)) b1 b2 b3 b4 (up b o e)) hS' r⟩⟩
end
section
variable {X:Cx} {pins:List (Addr×Obj)} {σ:L2.St} {H:Hp} {s:Shared}
theorem zrF {S:Addr} {h':Heap} {tk c:Nat} {es:Array DictEntry} {ts:List Addr} {acc:Array Value} {ps:List (V×V)} (I:Inv X pins σ H s) (ge:s.heap.objs.size<=S) (k:∀ b o,s.heap.get? b=some o->h'.get? b=some o) (hS:h'.get? S=some (zij acc c))
 (hl:ts.length=es.size) (g:Made es S h' ts) (hacc:acc.toList=ts.map Value.ref) (pr:Paired (λ(en:DictEntry) (p:V×V)=>RelV p.1 en.key/\RelV p.2 en.val) es.toList ps) (z:es.size<=sizeLine) :
 ∃ H1:Hp,Exs H H1/\H1 S=none/\ztc H H1 ts ps/\Inv X pins σ (upd H1 S (.lst (ts.map V.ref))) { s with heap:=h',toks:=tk }:=by
 have lp:es.size=ps.length:=by rw [← ya3]; exact Paired.length pr
 have nd:ts.Nodup:=List.Pairwise.imp (λ{a b} (h:a<b)=>ya5 h) g.rise
 let xs:List (Addr×HO):=ts.zip (List.zipWith zlv es.toList ps)
 have lw:(List.zipWith zlv es.toList ps).length=ts.length:=by rw [List.length_zipWith,ya3]; omega
 have fst:xs.map (·.1)=ts:=by
  rw [List.map_fst_zip]
  omega
 have at2:∀ {j:Nat} {t:Addr} {o:HO},xs[j]?=some (t,o)->∃ en p,ts[j]?=some t/\ps[j]?=some p/\es.toList[j]?=some en/\o=zlv en p:=by
  intro j t o e
  obtain ⟨e1,e2⟩:=ybt.mp e
  rw [List.getElem?_zipWith] at e2
  cases h1:es.toList[j]? with
  | none=>rw [h1] at e2; cases e2
  | some en =>
    cases h2:ps[j]? with
    | none=>rw [h1,h2] at e2; cases e2
    | some p =>
      rw [h1,h2] at e2
      cases e2
      exact ⟨en,p,e1,rfl,rfl,rfl⟩
 have above:∀ x∈xs,S<x.1:=λx m=>g.over x.1 (fst▸yan.mpr ⟨x,m,rfl⟩)
 have freshT:∀ t∈ts,H t=none:=λt m=>I.hok.fresh (ya7 ge (Nat.le_of_lt (g.over t m)))
 have newS:H S=none:=I.hok.fresh ge
 have offS:lay H xs S=none:=by
  rw [zmC λx m=>ya2 (above x m)]
  exact newS
 have ex:Exs H (lay H xs):=λb o e=>by
  rw [zmC λx m y=>by
   have q:=freshT x.1 (fst▸yan.mpr ⟨x,m,rfl⟩)
   rw [y,e] at q
   cases q]
  exact e
 have ndx:(xs.map (·.1)).Nodup:=by rw [fst]; exact nd
 refine ⟨lay H xs,ex,offS,znI (by omega) λj t p e1 e2 => ?_,ztb I k (ex.trans (Exs.new offS)) (λb lb => ?_) λb o e => ?_⟩
 ·refine ⟨freshT t (yaL e1),?_⟩
  obtain ⟨en,h1⟩:∃ en,es.toList[j]?=some en:=⟨es.toList[j]'(by have:=(yal.mp e2).1; rw [ya3]; omega),yak _⟩
  have m:(t,zlv en p)∈xs:=by
   refine yaL (i:=j) (ybt.mpr ⟨e1,?_⟩)
   rw [List.getElem?_zipWith,h1,e2]
  exact ⟨zlv en p,zxl ndx _ m,TupO.any [p.1,p.2] (o:=zpd en) rfl rfl rfl⟩
 ·have lb2:b<S:=yby lb ge
  have n1:b≠S:=ya5 lb2
  rw [upd_ne n1,zmC λx m=>ya2 (ybN lb2 (above x m))]
 ·by_cases n1:b=S
  ·subst n1
   rw [upd_same] at e
   cases e
   refine .inr ⟨by rw [yac]; omega,acc.toList,c,by rw [hacc]; exact LiI.vals_refs ts,?_⟩
   rw [Array.toArray_toList]
   exact hS
  ·rw [upd_ne n1] at e
   rcases zxm e with e | m
   ·exact .inl e
   ·refine .inr ?_
    obtain ⟨j,hj⟩:=ybo.mp m
    obtain ⟨en,p,e1,e2,e3,rfl⟩:=at2 hj
    obtain ⟨en',f1,f2⟩:=g.pair j b e1
    have f3:en'=en:=by
     rw [← Array.getElem?_toList,e3] at f1
     exact (yaT f1).symm
    subst f3
    obtain ⟨r1,r2⟩:=zlu pr e3 e2
    have vv:Vals [p.1,p.2] [en'.key,en'.val]:=.cons r1 (.cons r2 .nil)
    have it:IsTup h' b #[en'.key,en'.val]:=⟨_,f2,rfl,_,rfl⟩
    unfold zlv
    by_cases kk:zfM [p.1,p.2]=true
    ·rw [yaw kk]
     exact ⟨by show 2<=sizeLine; decide,_,vv,it⟩
    ·rw [yaz kk]
     exact ⟨f2,by show 2<=sizeLine; decide,_,vv,it⟩
end
def rLzs (vs:List V) (H:Hp) (Q:VK):Prop:=∃ (a b:Addr) (xs ys:List V),vs=[.ref a,.ref b]/\H a=some (.lst xs)/\H b=some (.lst ys)/\zvW H Q (xs.zip ys)
def rLz:R2:=λx y H Q=>rLzs [x,y] H Q
theorem zqo:∀ {xs ys:List V} {us ws:List Value},Vals xs us->Vals ys ws->Paired (λ(en:DictEntry) (p:V×V)=>RelV p.1 en.key/\RelV p.2 en.val) ((us.zip ws).map λq=>(⟨0,q.1,q.2⟩:DictEntry)) (xs.zip ys)
 | _,_,_,_,.nil,.nil=>.nil
 | _,_,_,_,.nil,.cons _ _=>.nil
 | _,_,_,_,.cons _ _,.nil=>.nil
 | _,_,_,_,.cons r t,.cons r2 t2=>.cons ⟨r,r2⟩ (zqo t t2)
section
variable {X:Cx} {e e2:Expr} {te te2:TE} {p p2 pos pos2:Pos}
theorem pe_lz (hc:X.calm=true) (he:PE X e te) (he2:PE X e2 te2) (hg:Gl X "list") (hm:X.mg "list" = none) (hv:bootBuiltins "list" = some (.type "list")) (hgz:Gl X "zip") (hmz:X.mg "zip" = none)
 (hs:starEach [.Call (.Name "zip" p2) [e,e2] [] pos2] X.env=(false,eval (.Call (.Name "zip" p2) [e,e2] [] pos2) X.env)::starEach [] X.env)
 (h1:starEach [e,e2] X.env=(false,eval e X.env)::starEach [e2] X.env) (h2:starEach [e2] X.env=(false,eval e2 X.env)::starEach [] X.env) (hpl:(backTo pos2 (starEach [e2] X.env)).any (·.1)=false) :
 PE X (.Call (.Name "list" p) [.Call (.Name "zip" p2) [e,e2] [] pos2] [] pos) (tOp rLz te te2):=by
 refine ⟨λpins s σ H Q I hq => ?_⟩
 refine wpAny_Call_Name_kw (ld_blt I hg hm hv ?_)
 refine ybe ?_ hs rfl
 rw [hs]
 show wpAny _ _ (spliced ((false,eval (.Call (.Name "zip" p2) [e,e2] [] pos2) X.env)::backTo pos (starEach [] X.env))) _ _ s
 refine Calls.spliced_cons ?_
 have ha:PA X [e,e2] (tCons te (tCons te2 tNil)):=pa_cons he (pa_cons he2 pa_nil h2) h1
 refine Call_ (ld_blt I hgz hmz PyProof.Rows.boot_zip (ybe (thn (ha.run pos2 pins s σ H (λvs H1=>rLzs vs H1 Q) I hq) λus s1 ⟨vs,H1,I1,r1,q1⟩ => ?_) h1 hpl))
 obtain ⟨a,b,xs,ys,ex,hqx,hqy,q⟩:=q1
 subst ex
 cases r1 with
 | cons r rr =>
   cases rr with
   | cons r' rr =>
     cases rr
     cases r
     cases r'
     obtain ⟨its,rv,p1,zx⟩:=I1.list (.inl (.inl hqx))
     obtain ⟨its2,rv2,p2',zy⟩:=I1.list (.inl (.inl hqy))
     have la:a<s1.heap.objs.size:=p1.lt
     have lb:b<s1.heap.objs.size:=p2'.lt
     have l1:=rv.length
     have l2:=rv2.length
     refine call_zip_2 p1.isList p2'.isList λh' hz hTI hTO q1 q2 hsz hk => ?_
     refine Calls.spliced_nil ?_
     have szm:min its.toArray.size its2.toArray.size<=sizeLine:=by
      simp only [yaW]
      omega
     refine zyW (s:={ s1 with heap:=h' }) (I1.ok.hd hc) (PySem.W.ktu_apart s1.heap.objs.size a b la lb) hz hTI ⟨_,_,hTO⟩ q1 q2 (p1.isList.at λo e=>hk a o e) (p2'.isList.at λo e=>hk b o e) szm λh2 acc c as k hS r => ?_
     dsimp only at hS r k
     rw [hsz] at hS r
     obtain ⟨es,hes⟩:∃ es:Array DictEntry,es=((its.zip its2).map λq=>(⟨0,q.1,q.2⟩:DictEntry)).toArray:=⟨_,rfl⟩
     have le:es.size=min its.length its2.length:=by rw [hes,yaW,yac,ybM]
     have szm2:min its.toArray.size its2.toArray.size=min its.length its2.length:=by simp only [yaW]
     have g:Made es (s1.heap.objs.size+5) h2 as:=⟨r.rise,λt m=>(r.over t m).1,λj t e=>by
      obtain ⟨x,y,e1,e2,e3⟩:=r.pair j t e
      refine ⟨⟨0,x,y⟩,?_,e3⟩
      rw [ybv] at e1 e2
      rw [hes,ybv,yaI,ybt (z:=(x,y)) |>.mpr ⟨e1,e2⟩]
      rfl⟩
     have old:∀ b o,s1.heap.get? b=some o->h2.get? b=some o:=λb o e=>by
      have lb2:b<s1.heap.objs.size:=Heap.lt_size e
      exact k b o (ya5 (yby lb2 (ybB _ _))) (ya5 (yby lb2 (ybB _ _))) (ya5 lb2) (ya5 (yby lb2 (ybB _ _))) (hk b o e)
     obtain ⟨H2,x1,x2,x3,J⟩:=zrF (tk:=s1.toks) I1 (ybB _ 5) old hS (by rw [r.len,szm2,le]) g r.refs (ps:=xs.zip ys) (by rw [hes]; exact zqo rv rv2) (by rw [le]; omega)
     refine ⟨.ref _,_,J,?_,q _ as H2 x1 x2 x3⟩
     rw [hsz]
     rfl
end
def zipD (as bs:List D):List D:=(as.zip bs).map λq=>.tup [q.1,q.2]
def lzK (ma mb:M) (Q:M->En->Prop) (e1:En):Prop:=match ma.d,mb.d with
 | .lst as,.lst bs=>Q (.lst (zipD as bs)) e1
 | _,_=>False
def wLz (o1 o2:WO):WE:=λe Q X=>o1 e (λa e1=>o2 e1 (λb e2=>zaS a e2 λma=>zaS b e2 λmb=>lzK ma mb Q e2) X) X
theorem zv4 {ma mb:M} {Q Q':M->En->Prop} {e1:En} (h:∀ m,Q m e1->Q' m e1) (q:lzK ma mb Q e1):lzK ma mb Q' e1:=by
 unfold lzK at *
 split at q
 ·exact h _ q
 ·exact q.elim
theorem zqp {K:PySem.W.Frag} {G:Hp}:∀ {xs ys:List V} {as bs:List D},Reps K G xs as->Reps K G ys bs->Paired (λ(p:V×V) (q:D×D)=>Rep K G p.1 q.1/\Rep K G p.2 q.2) (xs.zip ys) (as.zip bs)
 | _,_,_,_,.nil,.nil=>.nil
 | _,_,_,_,.nil,.cons _ _=>.nil
 | _,_,_,_,.cons _ _,.nil=>.nil
 | _,_,_,_,.cons r t,.cons r2 t2=>.cons ⟨r,r2⟩ (zqp t t2)
section
variable {y:Y} {a b:Expr} {oa ob:WO} {p p2 pos pos2:Pos}
theorem xlz (hc:y.X.calm=true) (hm:y.X.mg "list" = none) (hmz:y.X.mg "zip" = none) (ha:SO y a oa) (hb:SO y b ob) (hg:Gl y.X "list" := by rfl) (hgz:Gl y.X "zip" := by rfl)
 (hs:starEach [.Call (.Name "zip" p2) [a,b] [] pos2] y.X.env=(false,eval (.Call (.Name "zip" p2) [a,b] [] pos2) y.X.env)::starEach [] y.X.env:=by rfl)
 (h1:starEach [a,b] y.X.env=(false,eval a y.X.env)::starEach [b] y.X.env:=by rfl) (h2:starEach [b] y.X.env=(false,eval b y.X.env)::starEach [] y.X.env:=by rfl) (hpl:(backTo pos2 (starEach [b] y.X.env)).any (·.1)=false:=by rfl) :
 SE y (.Call (.Name "list" p) [.Call (.Name "zip" p2) [a,b] [] pos2] [] pos) (wLz oa ob) where
 run:=zbb (pe_lz hc ha.run hb.run hg hm boot_list hgz hmz hs h1 h2 hpl) λσ H Q ⟨e,P,h0,h⟩=>by
  refine ⟨e,P,h0,ha.mono e _ _ _ _ (λa e1 q v H1 o1 => ?_) (λ_ _ q=>q) h⟩
  obtain ⟨o1,p1⟩:=o1
  refine ⟨e1,pend a v++P,o1,hb.mono e1 _ _ _ _ (λb e2 q u H2 o2 => ?_) (λ_ _ q=>zcq q) q⟩
  obtain ⟨o2,p2⟩:=o2
  have o2:Ok y.X.K H2 σ e2 (pend b u++(pend a v++P)):=o2
  obtain ⟨ma,m1,q⟩:=za4 o2 (λp z=>yag _ (yai _ z)) p1 q
  obtain ⟨mb,m2,q⟩:=zb8 o2 p2 q
  obtain ⟨_,g⟩:=o2.2.opn
  unfold lzK at q
  split at q
  ·rename_i as bs ea eb
   obtain ⟨F1,w1⟩:=g.ownX _ m1
   obtain ⟨F2,w2⟩:=g.ownX _ m2
   obtain ⟨l1,xs,rfl,hx,_⟩:=zbA g.ex w1 ea
   obtain ⟨l2,ys,rfl,hy,_⟩:=zbA g.ex w2 eb
   refine ⟨l1,l2,xs,ys,rfl,hx,hy,λr ts H3 ex n f => ?_⟩
   obtain ⟨G,G2,g1,g2,exG,nw,_⟩:=o2.2.grow ex
   obtain ⟨F1,w1⟩:=g1.ownX _ m1
   obtain ⟨F2,w2⟩:=g1.ownX _ m2
   obtain ⟨l1',xs',e1,hx',r1⟩:=zbA g1.ex w1 ea
   obtain ⟨l2',ys',e2,hy',r2⟩:=zbA g1.ex w2 eb
   cases e1
   cases e2
   have ex1:xs'=xs:=by
    rw [hx] at hx'
    injection hx' with z
    injection z with z
    exact z.symm
   have ey1:ys'=ys:=by
    rw [hy] at hy'
    injection hy' with z
    injection z with z
    exact z.symm
   subst ex1 ey1
   rw [show pend b (.ref l2)++(pend a (.ref l1)++P)=(pend b (.ref l2)++pend a (.ref l1))++P from (yae _ _ _).symm] at g2
   have rp:=zrt f exG nw (zqp r1 r2)
   exact q _ _ (g2.fin o2.1 (.lst n rp))
  ·exact q.elim
 mono:=λe Q Q' X X' hq hx q=>ha.mono e _ _ _ _ (λa e1 q=>hb.mono e1 _ _ _ _ (λb e2 q=>zaF (λma q=>zaF (λmb q=>zv4 (λm q=>hq _ _ q) q) q) q) hx q) hx q
end
open R
def nLz (a b:D):R (List D):=match a,b with
 | .lst as,.lst bs=>.ok (zipD as bs)
 | _,_=>.no
section
variable {β:Type} {P:β->Prop} {XP:Xn->Prop} {ma mb:M} {e:En} {QE:M->En->Prop} {XX:XQ}
theorem k_wlz {o1 o2:WO} (q:o1 e (λa e1=>o2 e1 (λb e2=>zaS a e2 λma=>zaS b e2 λmb=>lzK ma mb QE e2) XX) XX):wLz o1 o2 e QE XX:=q
theorem k_lz {f:List D->R β} (h:((nLz ma.d mb.d).bind f).post P XP) (q:∀ v,(f v).post P XP->QE (.lst v) e):lzK ma mb QE e:=by
 unfold nLz at h
 unfold lzK
 split at h
 ·exact q _ h
 ·exact h.elim
end
end VW
namespace VW
open PySem PySem.Spec PyProof.Rows L2 R
abbrev TSX:Type:=Addr->Value->Option Addr->TS
abbrev SuX:Type:=Str×(Hd->Xn->WS)
def SqB (K:PySem.W.Frag):Bool->Hp->Addr->List V->Prop
 | true,H,a,l=>SqL K H a l
 | false,H,a,l=>SqT K H a l
def RwB:Bool->Heap->Addr->Array Value->Prop
 | true,h,a,u=>h.IsList a u
 | false,h,a,u=>h.IsTuple a u
def GoB:Bool->Heap->Addr->Addr->Nat->Prop
 | true,h,i,a,n=>h.IsListIter i a n
 | false,h,i,a,n=>h.IsTupleIter i a n
def itB:Bool->Addr->Obj
 | true,a=>{ cls:=.type "list_iterator",data:=.fields #[.ref a,.int 0 0] }
 | false,a=>{ cls:=.type "tuple_iterator",data:=.fields #[.ref a,.int 0 0] }
theorem ztn (b:Bool) (a:Addr) (u:Array Value):Begins (.ref a) (itB b a) λh=>RwB b h a u:=match b with
 | true=>begins_list a u
 | false=>begins_tuple a u
theorem zqq {prog:Program} {w:World} {A:Around} (hh:A.handled=none) (b:Bool) (it l:Addr) (ne:l≠it) (u:Array Value) :
 Draws prog w A it [it,l] u.size (λi v=>u[i]?=some v) (λi h=>GoB b h it l i/\RwB b h l u):=match b with
 | true=>.list hh it l ne u
 | false=>.tuple hh it l ne u
theorem zmH {b:Bool} {h:Heap} {i a:Addr} {n:Nat} (g:GoB b h i a n):∃ o,h.get? i=some o/\∀ v,o.data≠.cell v:=by
 cases b
 all_goals
  obtain ⟨o,e,_,d⟩:=g
  exact ⟨o,e,λv q=>by rw [d] at q; cases q⟩
theorem zqr {b:Bool} {h h':Heap} {i a:Addr} {n:Nat} (g:GoB b h i a n) (k:∀ o,h.get? i=some o->h'.get? i=some o):GoB b h' i a n:=by
 cases b
 ·exact Heap.IsTupleIter.at g k
 ·exact Heap.IsListIter.at g k
theorem zqs {b:Bool} {h:Heap} {i a:Addr} {n:Nat} {u:Array Value} (g:GoB b h i a n) (r:RwB b h a u):a≠i:=λe=>by
 subst e
 cases b
 ·obtain ⟨o1,q1,c1,_⟩:=r
  obtain ⟨o2,q2,c2,_⟩:=g
  have z:o1=o2:=yaT (q1.symm.trans q2)
  rw [z,c2] at c1
  exact absurd c1 (by decide)
 ·obtain ⟨o1,q1,c1,_⟩:=r
  obtain ⟨o2,q2,c2,_⟩:=g
  have z:o1=o2:=yaT (q1.symm.trans q2)
  rw [z,c2] at c1
  exact absurd c1 (by decide)
theorem zto {b:Bool} {h:Heap} {i a:Addr} (e:h.get? i=some (itB b a)):GoB b h i a 0:=by
 cases b
 ·exact ⟨_,e,rfl,rfl⟩
 ·exact ⟨_,e,rfl,rfl⟩
theorem zxq {b:Bool} {h:Heap} {a:Addr} {u:Array Value} (r:RwB b h a u):a<h.objs.size:=by
 cases b
 ·obtain ⟨_,z,_⟩:=r
  exact Heap.lt_size z
 ·obtain ⟨_,z,_⟩:=r
  exact Heap.lt_size z
section
variable {X:Cx} {pins:List (Addr×Obj)} {σ:L2.St} {H:Hp} {s:Shared} {a:Addr} {xs ys:List V}
theorem zil (I:Inv X pins σ H s) {b:Bool} (h:SqB X.K b H a xs):∃ u:List Value,Vals xs u/\RwB b s.heap a u.toArray:=by
 cases b
 ·obtain ⟨u,r,p,_⟩:=I.tuple h
  exact ⟨u,r,p⟩
 ·obtain ⟨u,r,p,_⟩:=I.list h
  exact ⟨u,r,p.isList⟩
theorem zqt (I:Inv X pins σ H s) {b:Bool} (h:SqB X.K b H a xs) (h':SqB X.K b H a ys):xs=ys:=by
 cases b
 ·exact I.tuple_inj h h'
 ·exact I.list_inj h h'
end
def IzB (K:PySem.W.Frag) (p q:Bool) (a b:Addr) (n:Nat):It where
 go:=λi H=>∃ (xs ys:List V) (x y:V),SqB K p H a xs/\SqB K q H b ys/\n=min xs.length ys.length/\xs[i]?=some x/\ys[i]?=some y
 yld:=λi H v H2=>∃ T x y,v=.ref T/\H T=none/\H2=upd H T (.tup [x,y])/\(∀ xs,SqB K p H a xs->xs[i]?=some x)/\∀ ys,SqB K q H b ys->ys[i]?=some y
 stop:=λi H=>∃ xs ys:List V,SqB K p H a xs/\SqB K q H b ys/\n=min xs.length ys.length/\n<=i
theorem ztp {P:Program} {w:World} {K:PySem.W.Frag} {elts:List Expr} {kk:Nat} {tpos:Pos} {p q:Bool} {a b z t1 t2 i1 i2:Addr} {n0:Nat} (D:ZipSep2 z t1 t2 i1 i2 [i1,a] [i2,b]) :
 Turn P w K (.Tuple elts kk tpos) (IzB K p q a b n0) [z,t1,t2,i1,i2] z (λi h=>IsZip h z t1 t2 .none/\IsTupOf2 h t1 (.ref i1) (.ref i2)/\(∃ x y,IsTupOf2 h t2 x y)/\GoB p h i1 a i/\GoB q h i2 b i/\i<=n0) where
 mem:=yaa
 obj:=λi h t c hc=>by
  obtain ⟨h1,h2,⟨x,y,h3⟩,h4,h5,_⟩:=t
  have hc:c=z\/c=t1\/c=t2\/c=i1\/c=i2:=by simpa using hc
  rcases hc with e | e | e | e | e
  ·exact e▸⟨_,h1,λv q=>nomatch q⟩
  ·exact e▸⟨_,h2,λv q=>nomatch q⟩
  ·exact e▸⟨_,h3,λv q=>nomatch q⟩
  ·exact e▸zmH h4
  ·exact e▸zmH h5
 keep:=λi h h' t k=>by
  obtain ⟨h1,h2,⟨x,y,h3⟩,h4,h5,h6⟩:=t
  exact ⟨k z (by simp) _ h1,k t1 (by simp) _ h2,⟨x,y,k t2 (by simp) _ h3⟩,zqr h4 (k i1 (by simp)),zqr h5 (k i2 (by simp)),h6⟩
 item:=by
  intro X hP hw hK hc i pins s σ H E I hf t g
  subst hP hw hK
  obtain ⟨h1,h2,⟨x0,y0,h3⟩,h4,h5,h6⟩:=t
  obtain ⟨xs,ys,x,y,g1,g2,g3,g4,g5⟩:=g
  obtain ⟨u1,r1,p1⟩:=zil I g1
  obtain ⟨u2,r2,p2⟩:=zil I g2
  obtain ⟨x',hx,rx⟩:=r1.get g4
  obtain ⟨y',hy,ry⟩:=r2.get g5
  have n1:a≠i1:=zqs h4 p1
  have n2:b≠i2:=zqs h5 p2
  have hh:X.A.in1.handled=none:=I.ok.hd hc
  have m1:i<u1.toArray.size:=by
   have:=(yal.mp hx).1
   simpa using this
  have m2:i<u2.toArray.size:=by
   have:=(yal.mp hy).1
   simpa using this
  have lz:z<s.heap.objs.size:=Heap.lt_size h1
  refine wpAny_pyNext_zipD2_item D (zqq (A:=X.A.in1) hh p i1 a n1 u1.toArray) (zqq (A:=X.A.in1) hh q i2 b n2 u2.toArray) h1 h2 h3 ⟨h4,p1⟩ ⟨h5,p2⟩ m1 m2 λv1 v2 h' tk e1 e2 k1 k2 k3 k4 k5 _ k6 => ?_
  have ev1:v1=x':=by
   have e1:u1.toArray[i]?=some v1:=e1
   rw [ybv,hx] at e1
   exact (yaT e1).symm
  have ev2:v2=y':=by
   have e2:u2.toArray[i]?=some v2:=e2
   rw [ybv,hy] at e2
   exact (yaT e2).symm
  subst ev1 ev2
  refine ⟨_,rfl,wpAny_letOwnedTupleGo_zip (s:={ s with heap:=h',toks:=tk }) k1 λh2' hz' sb => ?_⟩
  have top:h2'.get? s.heap.objs.size=some { cls:=.type "tuple",data:=.seq #[v1,v2] }:=(sb.2 _ (ya2 lz)).trans k5
  have ok:ObjOk X.prog X.w (upd H s.heap.objs.size (.tup [x,y])) h2' s.heap.objs.size (.tup [x,y]):=by
   refine ⟨?_,[v1,v2],.cons rx (.cons ry .nil),_,top,rfl,_,rfl⟩
   show 2<=sizeLine
   decide
  have kk2:∀ c o,c∉[z,t1,t2,i1,i2]->s.heap.get? c=some o->h2'.get? c=some o:=λc o hb e=>by
   have b1:c≠z:=λy=>hb (by simp [y])
   exact (sb.2 c b1).trans (k6 c o b1 (λy=>hb (by simp [y])) (λy=>hb (by simp [y])) (λy=>hb (by simp [y])) e)
  have I1:=I.turnedNew (t':=tk) kk2 hf (yaj _) ok
  refine ⟨.ref s.heap.objs.size,_,I1,rfl,⟨_,x,y,rfl,I.hok.fresh (yaj _),rfl,λl hy => ?_,λl hy => ?_⟩,⟨hz',?_,⟨v1,v2,?_⟩,?_,?_,?_⟩,λc hb => ?_⟩
  ·rw [zqt I hy g1]
   exact g4
  ·rw [zqt I hy g2]
   exact g5
  ·exact (sb.2 _ D.TIz).trans (k6 _ _ D.TIz D.TITO D.TIi1 D.TIi2 h2)
  ·exact (sb.2 _ D.TOz).trans k2
  ·exact zqr k3.1 λo e=>(sb.2 _ D.zi1.symm).trans e
  ·exact zqr k4.1 λo e=>(sb.2 _ D.zi2.symm).trans e
  ·have a1:=(yal.mp g4).1
   have a2:=(yal.mp g5).1
   omega
  ·have lc:c<s.heap.objs.size:=by
    have hb:c=z\/c=t1\/c=t2\/c=i1\/c=i2:=by simpa using hb
    obtain ⟨o4,e4,_⟩:=zmH h4
    obtain ⟨o5,e5,_⟩:=zmH h5
    rcases hb with e | e | e | e | e
    ·exact e▸lz
    ·exact e▸Heap.lt_size h2
    ·exact e▸Heap.lt_size h3
    ·exact e▸Heap.lt_size e4
    ·exact e▸Heap.lt_size e5
   rw [upd_ne (ya5 lc)]
   exact (hf c hb).1
 done:=by
  intro X hP hw hK hc i pins s σ H E I hf t g
  subst hP hw hK
  obtain ⟨h1,h2,⟨x0,y0,h3⟩,h4,h5,h6⟩:=t
  obtain ⟨xs,ys,g1,g2,g3,g4⟩:=g
  obtain ⟨u1,r1,p1⟩:=zil I g1
  obtain ⟨u2,r2,p2⟩:=zil I g2
  have n1:a≠i1:=zqs h4 p1
  have n2:b≠i2:=zqs h5 p2
  have hh:X.A.in1.handled=none:=I.ok.hd hc
  have l1:=r1.length
  have l2:=r2.length
  refine wpAny_pyNext_zipD2_end D (zqq (A:=X.A.in1) hh p i1 a n1 u1.toArray) (zqq (A:=X.A.in1) hh q i2 b n2 u2.toArray) h1 h2 h3 ⟨h4,p1⟩ ⟨h5,p2⟩ ?_ ?_ ?_ λh' tk k=>⟨rfl,?_⟩
  ·rw [yaW]; omega
  ·rw [yaW]; omega
  ·rw [yaW,yaW]; omega
  ·exact I.turnedL (t':=tk) (ch:=[z,t1,t2,i1,i2]) (λc o hb e=>k c o (λy=>hb (by simp [y])) (λy=>hb (by simp [y])) (λy=>hb (by simp [y])) (λy=>hb (by simp [y])) e) hf
 self:=λA i s Q E t h=>wpAny_pyIter_zip t.1 h
theorem zpD_at {ds es:List D} {i:Nat} {d:D} (h:(zipD ds es)[i]?=some d):∃ x y,ds[i]?=some x/\es[i]?=some y/\d=.tup [x,y]:=by
 unfold zipD at h
 rw [yaI] at h
 cases q:(ds.zip es)[i]? with
 | none=>rw [q] at h; cases h
 | some z =>
   rw [q] at h
   cases h
   have:=ybt.mp q
   exact ⟨z.1,z.2,this.1,this.2,rfl⟩
theorem zrG (ds es:List D):(zipD ds es).length=min ds.length es.length:=by
 unfold zipD
 rw [yac,ybM]
theorem zyX {K:PySem.W.Frag} {G H:Hp} {v:V} {d:D} {ds:List D} (ex:Ex G H) (w:Rep K G v d) (e:seqD d=some ds):∃ a b vs,v=.ref a/\SqB K b H a vs/\Reps K G vs ds:=by
 cases w with
 | tup ht rs =>
   cases e
   exact ⟨_,false,_,rfl,(ht.mono ex).sqT,rs⟩
 | lst hs rs =>
   cases e
   exact ⟨_,true,_,rfl,SqL.of (ex.keep hs),rs⟩
 | non=>cases e
 | bl _=>cases e
 | int _=>cases e
 | str _=>cases e
 | ty _=>cases e
 | opq _=>cases e
 | att _ _=>cases e
 | adr _=>cases e
 | atx _ _=>cases e
 | scr _=>cases e
 | dK _ _=>cases e
 | dT _ _=>cases e
theorem zfy {K:PySem.W.Frag} {G H:Hp} {v:V} {d:D} {F:List Addr} (w:Own K G H v (.fz d) F):Rep K G v d:=by
 cases w with
 | fz h=>exact h
theorem zv5 {K:PySem.W.Frag} {p q:Bool} {a b:Addr} {d1 d2:D} {ds es:List D} {l1 l2:List V} {G H:Hp} (h1:SqB K p H a l1) (h2:SqB K q H b l2) (r1:l1.length=ds.length) (r2:l2.length=es.length)
 (e1:seqD d1=some ds) (e2:seqD d2=some es) (pp:∀ {G H:Hp},Ex G H->Rep K G (.ref a) d1->∃ vs,SqB K p H a vs/\Reps K G vs ds) (pq:∀ {G H:Hp},Ex G H->Rep K G (.ref b) d2->∃ vs,SqB K q H b vs/\Reps K G vs es) :
 Walks K true (IzB K p q a b (min ds.length es.length)) (zipD ds es) [(.ref b,.fz d2),(.ref a,.fz d1)] where
 go:=λi H L d h e=>by
  have h:Sep K H ((.ref b,.fz d2)::(.ref a,.fz d1)::L):=h
  obtain ⟨x,y,x1,y1,rfl⟩:=zpD_at e
  obtain ⟨G,g⟩:=h.opn
  obtain ⟨F1,w1⟩:=g.own (.ref b,.fz d2) yaa
  obtain ⟨F2,w2⟩:=g.own (.ref a,.fz d1) (yab _ yaa)
  obtain ⟨vs1,s1,rs1⟩:=pp g.ex (zfy w2)
  obtain ⟨vs2,s2,rs2⟩:=pq g.ex (zfy w1)
  obtain ⟨x',hx,_⟩:=rs1.at x1
  obtain ⟨y',hy,_⟩:=rs2.at y1
  refine ⟨⟨vs1,vs2,x',y',s1,s2,by rw [rs1.length,rs2.length],hx,hy⟩,λv H2 yl => ?_⟩
  obtain ⟨T,x'',y'',rfl,hn,rfl,f1,f2⟩:=yl
  refine zjv hn ?_
  have ex:x''=x':=yaT ((f1 _ s1).symm.trans hx)
  have ey:y''=y':=yaT ((f2 _ s2).symm.trans hy)
  subst ex ey
  have z:Sep K H ((y'',.fz y)::(.ref b,.fz d2)::(.ref a,.fz d1)::L):=by
   obtain ⟨vy,hvy,ry⟩:=rs2.at y1
   rw [hy] at hvy
   cases hvy
   exact g.res _ _ _ (.same ry)
  obtain ⟨G3,g3⟩:=z.opn
  obtain ⟨F3,w3⟩:=g3.own (.ref a,.fz d1) (yab _ (yab _ yaa))
  obtain ⟨vs3,s3,rs3⟩:=pp g3.ex (zfy w3)
  obtain ⟨vx,hvx,rx⟩:=rs3.at x1
  rw [f1 _ s3] at hvx
  cases hvx
  exact g3.res _ _ _ (.same rx)
 stop:=λi H L h hl=>by
  have h:Sep K H ((.ref b,.fz d2)::(.ref a,.fz d1)::L):=h
  obtain ⟨G,g⟩:=h.opn
  obtain ⟨F1,w1⟩:=g.own (.ref b,.fz d2) yaa
  obtain ⟨F2,w2⟩:=g.own (.ref a,.fz d1) (yab _ yaa)
  obtain ⟨vs1,s1,rs1⟩:=pp g.ex (zfy w2)
  obtain ⟨vs2,s2,rs2⟩:=pq g.ex (zfy w1)
  rw [zrG] at hl
  exact ⟨vs1,vs2,s1,s2,by rw [rs1.length,rs2.length],hl⟩
def dirB:D->Bool
 | .lst _=>true
 | _=>false
theorem zmI {K:PySem.W.Frag} {a:Addr} {d:D} {ds:List D} (e:seqD d=some ds) {G H:Hp} (ex:Ex G H) (w:Rep K G (.ref a) d):∃ vs,SqB K (dirB d) H a vs/\Reps K G vs ds:=by
 generalize hv:V.ref a=v at w
 cases w with
 | tup ht rs =>
   cases e
   cases hv
   exact ⟨_,(ht.mono ex).sqT,rs⟩
 | lst hs rs =>
   cases e
   cases hv
   exact ⟨_,SqL.of (ex.keep hs),rs⟩
 | non=>cases e
 | bl _=>cases e
 | int _=>cases e
 | str _=>cases e
 | ty _=>cases e
 | opq _=>cases e
 | att _ _=>cases e
 | adr _=>cases e
 | atx _ _=>cases e
 | scr _=>cases e
 | dK _ _=>cases e
 | dT _ _=>cases e
theorem zqu {K:PySem.W.Frag} {v:V} {d:D} {ds:List D} (e:seqD d=some ds) {G:Hp} (w:Rep K G v d):∃ a,v=.ref a:=by
 obtain ⟨a,_,_,e,_⟩:=zyX (Ex.refl G) w e
 exact ⟨a,e⟩
section
variable {y:Y} {ea eb:Expr} {wa wb:WE} {p pos tpos:Pos} {elts:List Expr} {kk:Nat}
def zpK (ma mb:M) (QI:List D->En->Prop) (e1:En):Prop:=match seqD ma.d,seqD mb.d with
 | some ds,some es=>QI (zipD ds es) e1
 | _,_=>False
def iZp (wa wb:WE):WI:=λe Q X=>wa e (λm1 e1=>wb e1 (λm2 e2=>zpK m1 m2 Q e2) X) X
theorem zv6 {ma mb:M} {Q Q':List D->En->Prop} {e1:En} (h:∀ ds e,Q ds e->Q' ds e) (q:zpK ma mb Q e1):zpK ma mb Q' e1:=by
 unfold zpK at *
 split at q
 ·exact h _ _ q
 ·exact q.elim
theorem zv7 (ha:zcp wa) (hb:zcp wb):zsd (iZp wa wb):=λe Q Q' X X' hq hx q=>ha _ _ _ _ _ (λm e1 q=>hb _ _ _ _ _ (λm2 e2 q=>zv6 hq q) hx q) hx q
theorem si_zp (hg:Gl y.X "zip") (hm:y.X.mg "zip" = none) (ha:SE y ea wa) (hb:SE y eb wb) (hs:starEach [ea,eb] y.X.env=(false,eval ea y.X.env)::starEach [eb] y.X.env) (hs2:starEach [eb] y.X.env=[(false,eval eb y.X.env)])
 (hpl:(backTo pos (starEach [eb] y.X.env)).any (·.1)=false):SI y (.Tuple elts kk tpos) (.Call (.Name "zip" p) [ea,eb] [] pos) (iZp wa wb) where
 run:=⟨λpins s σ H R I ⟨e,P,h0,q⟩=>by
  refine Call_ (ld_blt I hg hm PyProof.Rows.boot_zip (ybe (thn ((zd4 (zac ha) (zd4 (zac hb) zad hs2) hs).run.run pos pins s σ H (λvs H1=>∃ (v v2:V) (d d2:D) (ds es:List D) (e1:En),vs=[v,v2]/\seqD d=some ds/\seqD d2=some es/\Ok y.X.K H1 σ e1 ((v2,.fz d2)::(v,.fz d)::P) /\
   ∀ J H1 R',Walks y.X.K true J (zipD ds es) R'->Ok y.X.K H1 σ e1 (R'++P)->R J H1) I ⟨e,P,h0,ha.mono _ _ _ _ _ (λm1 e1 q=>hb.mono _ _ _ _ _ (λm2 e2 q vs H1 o => ?_) (λ_ _ q=>q) q) (λ_ _ q=>q) q⟩) λus s1 ⟨vs,H1,I1,r1,v,v2,d,d2,ds,es,e1,ev,e3,e4,o,q⟩ => ?_) hs hpl))
  ·obtain ⟨o,p⟩:=o
   match vs,p with
   | [v,v2],p =>
     unfold zpK at q
     split at q
     ·rename_i ds es q1 q2
      have o:Ok y.X.K H1 σ e2 ((v2,m2)::(v,m1)::P):=o
      exact ⟨v,v2,m1.d,m2.d,ds,es,e2,rfl,q1,q2,((o.freeze.perm (.swap _ _ _)).freeze).perm (.swap _ _ _),q⟩
     ·exact q.elim
  ·subst ev
   cases r1 with
   | cons r rr =>
     cases rr with
     | cons r' rr =>
       cases rr
       obtain ⟨G,g⟩:=o.2.opn
       obtain ⟨F1,w1⟩:=g.own (v2,.fz d2) (yag _ yaa)
       obtain ⟨F2,w2⟩:=g.own (v,.fz d) (yag _ (yab _ yaa))
       obtain ⟨a,rfl⟩:=zqu e3 (zfy w2)
       obtain ⟨b,rfl⟩:=zqu e4 (zfy w1)
       cases r
       cases r'
       obtain ⟨l1,s1',rs1⟩:=zmI e3 g.ex (zfy w2)
       obtain ⟨l2,s2',rs2⟩:=zmI e4 g.ex (zfy w1)
       obtain ⟨u1,k1,p1⟩:=zil I1 s1'
       obtain ⟨u2,k2,p2⟩:=zil I1 s2'
       have la:a<s1.heap.objs.size:=zxq p1
       have lb:b<s1.heap.objs.size:=zxq p2
       refine zip_begins2 (ztn (dirB d) a u1.toArray) (ztn (dirB d2) b u2.toArray) p1 p2 λh' hz t1 t2 g1 g2 _ hk=>wpAny_pyIter_zip hz ?_
       have I2:Inv y.X pins σ H1 { s1 with heap:=h' }:=I1.kept (t':=s1.toks) hk
       have sp:ZipSep2 (s1.heap.objs.size+4) (s1.heap.objs.size+2) (s1.heap.objs.size+3) s1.heap.objs.size (s1.heap.objs.size+1) [s1.heap.objs.size,a] [s1.heap.objs.size+1,b] :=
        zip_sep2 (fp1:=[a]) (fp2:=[b]) (λc hc=>yah.mp hc▸la) (λc hc=>yah.mp hc▸lb)
       refine ⟨s1.heap.objs.size+4,[s1.heap.objs.size+4,s1.heap.objs.size+2,s1.heap.objs.size+3,s1.heap.objs.size,s1.heap.objs.size+1],_,_,H1,rfl,I2,ztp (p:=dirB d) (q:=dirB d2) (n0:=min ds.length es.length) sp,
        ⟨hz,t1,⟨_,_,t2⟩,zto g1,zto g2,ybd _⟩,λc hc => ?_,q _ H1 _ (zv5 (G:=G) (H:=H1) s1' s2' rs1.length rs2.length e3 e4 (λx y=>zmI e3 x y) (λx y=>zmI e4 x y)) o⟩
       have le:s1.heap.objs.size<=c:=by
        have hc:c=s1.heap.objs.size+4\/c=s1.heap.objs.size+2\/c=s1.heap.objs.size+3\/c=s1.heap.objs.size\/c=s1.heap.objs.size+1:=by simpa using hc
        rcases hc with e | e | e | e | e
        ·exact e▸ybB _ _
        ·exact e▸ybB _ _
        ·exact e▸ybB _ _
        ·exact e▸yaj _
        ·exact e▸ybB _ _
       exact I1.fpOk le (I1.hok.fresh le)⟩
 mono:=zv7 ha.mono hb.mono
theorem xzp (hm:y.X.mg "zip" = none) (ha:SE y ea wa) (hb:SE y eb wb) (hg:Gl y.X "zip" := by rfl) (hs:starEach [ea,eb] y.X.env=(false,eval ea y.X.env)::starEach [eb] y.X.env:=by rfl)
 (hs2:starEach [eb] y.X.env=[(false,eval eb y.X.env)]:=by rfl) (hpl:(backTo pos (starEach [eb] y.X.env)).any (·.1)=false:=by rfl):SI y (.Tuple elts kk tpos) (.Call (.Name "zip" p) [ea,eb] [] pos) (iZp wa wb):=si_zp hg hm ha hb hs hs2 hpl
end
def nZip (a b:D):R (List D):=(ofO (seqD a)).bind λds=>(ofO (seqD b)).bind λes=>.ok (zipD ds es)
section
variable {β:Type} {P:β->Prop} {XP:Xn->Prop} {ma mb:M} {e:En} {XX:XQ} {wa wb:WE} {QI:List D->En->Prop}
theorem zyY (q:wa e (λm1 e1=>wb e1 (λm2 e2=>zpK m1 m2 QI e2) XX) XX):iZp wa wb e QI XX:=q
theorem zyZ {f:List D->R β} (h:((nZip ma.d mb.d).bind f).post P XP) (q:∀ v,(f v).post P XP->QI v e):zpK ma mb QI e:=by
 unfold nZip at h
 unfold zpK
 cases e1:seqD ma.d with
 | none =>
   rw [e1] at h
   exact h.elim
 | some ds =>
   rw [e1] at h
   cases e2:seqD mb.d with
   | none =>
     rw [e2] at h
     exact h.elim
   | some es =>
     rw [e2] at h
     exact q _ h
end
def rCntT (K:PySem.W.Frag):V->List V->Hp->VK->Prop:=λx xs H Q=>∃ (a:Addr) (y:V) (d:PyData) (ds:List PyData),x=V.ref a/\xs=[y]/\Dp K H (V.ref a) (.tuple ds)/\Dp K H y d/\inOk d ds=true /\
 Q (.int ((ds.countP λz=>PyData.eqv z d:Nat):Int)) H
section
variable {X:Cx} {K:PySem.W.Frag}
theorem ztq (hu:X.A.units+64<cLine):MtR X "tuple.count" (rCntT X.K):=by
 intro pins s σ H x xs v us Q I rx rxs h
 obtain ⟨a,y,d,ds,rfl,rfl,hl,hy,ok,q⟩:=h
 cases rx
 cases rxs with
 | cons ry rt =>
   rename_i uy ut
   cases rt
   obtain ⟨bs,r1⟩:=Dp.reads I d y uy hy ry
   unfold inOk at ok
   obtain ⟨ok,o3⟩:=yaX.mp ok
   obtain ⟨o1,o2⟩:=yaX.mp ok
   have o3:d.depth<=60:=yao o3
   cases hl with
   | tup hs ha =>
     obtain ⟨its,rv,pl,hlen⟩:=I.tuple hs
     obtain ⟨as,h4⟩:=Dp.readsAll I ds _ its ha rv
     refine SeqAt.count_tuple_data (vs:=its.toArray) (xs:=ds) (d:=d) (as:=as) (bs:=bs) pl (show ReadsAll s.heap its.toArray.toList ds as from h4) r1 (PyData.plainAll_of_canLay0 ds o2) (PyData.plain_of_canLay0 d o1) ?_ ⟨.int _,H,I.tok _,⟨_,rfl⟩,q⟩
     have:=Nat.min_le_right (PyData.depthAll ds) d.depth
     omega
def zv8:M->OPN:=λm ms q=>one ms λa=>match m.d with
 | .tup ds=>(match a.d.py,D.pys ds with
   | some p,some ps=>inOk p ps=true/\q (.fz (.int ((ps.countP λz=>PyData.eqv z p:Nat):Int)))
   | _,_=>False)
 | _=>False
theorem zy0:SndT K (rCntT K) zv8 where
 run:=λG H x mx F xs ms Q ex w ow q=>by
  obtain ⟨v,a,rfl,rfl,⟨F',w'⟩,q⟩:=zcx ow q
  split at q
  ·rename_i ds e0
   split at q
   ·rename_i p ps e1 e2
    obtain ⟨ok,q⟩:=q
    obtain ⟨b,vs,rfl,h1,r1⟩:=zfx ex w e0
    exact ⟨b,v,p,ps,rfl,rfl,.tup h1.sqT (Reps.dp ex r1 e2),w'.dp ex e1,ok,q _ _ (.same (.int _))⟩
   ·exact q.elim
  ·exact q.elim
 mono:=λa b q q' h k=>zbv (λm k=>by
  split at k
  ·split at k
   ·exact ⟨k.1,h _ k.2⟩
   ·exact k.elim
  ·exact k.elim) k
end
def nTCn (a b:D):R D:=match a with
 | .tup ds=>(ofO b.py).bind λp=>(ofO (D.pys ds)).bind λps=>need (inOk p ps) (.ok (.int ((ps.countP λz=>PyData.eqv z p:Nat):Int)))
 | _=>.no
section
variable {β:Type} {P:β->Prop} {XP:Xn->Prop} {ma mb:M} {k:M->Prop}
theorem k_tcn {f:D->R β} (h:((nTCn ma.d mb.d).bind f).post P XP) (q:∀ v,(f v).post P XP->k (.fz v)):zv8 ma [mb] k:=by
 unfold nTCn at h
 unfold zv8 one
 split at h
 ·rename_i e0
  try dsimp only
  try rw [e0]
  try dsimp only
  obtain ⟨p,e1,h⟩:=zbf h
  obtain ⟨ps,e2,h⟩:=zbf h
  obtain ⟨c,h⟩:=za7 h
  rw [e1,e2]
  exact ⟨c,q _ h⟩
 ·exact h.elim
end
def oTup:D->Bool
 | .tup []=>true
 | .tup (.str _::_)=>true
 | .tup (.tup _::_)=>true
 | _=>false
theorem zpf {K:PySem.W.Frag} {G:Hp} {vs:List V} {ds:List D} (h:oTup (.tup ds)=true) (r:Reps K G vs ds):zfM vs=false:=by
 unfold oTup at h
 split at h
 ·rename_i e
  cases e
  cases r
  rfl
 ·rename_i e
  cases e
  cases r with
  | cons r1 r2 =>
    cases r1
    rfl
 ·rename_i e
  cases e
  cases r with
  | cons r1 r2 =>
    cases r1
    rfl
 ·cases h
theorem zv9 {K:PySem.W.Frag} {G H:Hp} {v:V} {m:M} {F:List Addr} (ex:Ex G H) (h:oTup m.d=true) (w:Own K G H v m F):tyT v H:=by
 cases m with
 | fz d =>
   have h:oTup d=true:=h
   cases d with
   | tup ds =>
     cases w with
     | fz w =>
       cases w with
       | tup ta r =>
         obtain ⟨o,its,n,e,hc,hd,_⟩:=(ta.mono ex).frz (zpf h r)
         exact ⟨_,o,_,rfl,e,hc,hd⟩
   | _=>cases h
 | _=>cases h
def wMtO (op:M->OPN) (o:WO) (wa:WA):WE:=λe Q X=>o e (λa e1=>zaS a e1 (λm=>oTup m.d=true)/\wa e1 (λas e2=>zaS a e2 λm=>zbQ as e2 λms=>op m ms λr=>Q r e2) X) X
section
variable {y:Y} {op:M->OPN} {oo:WO} {wa:WA} {r:V->List V->Hp->VK->Prop} {o:Expr} {apos cpos:Pos} {e:Expr} {es:List Expr}
theorem ztr {K:PySem.W.Frag} (hs:SndT K r op) (ho:ze7 oo) (ha:zfS wa):zcp (wMtO op oo wa):=λe Q Q' X X' hq hx q =>
 ho _ _ _ _ _ (λa e1 q=>⟨q.1,ha _ _ _ _ _ (λas e2 q=>zaF (λm q=>zdA (λms q=>hs.mono _ _ _ _ (λm q=>hq _ _ q) q) q) q) hx q.2⟩) hx q
theorem zwa (hs:SndT y.X.K r op) (ho:ze7 oo) (ha:zfS wa) (σ:L2.St) (H:Hp) (Q:VK) (h:zgK y (wMtO op oo wa) σ H Q):zl3 y oo σ H λx H1=>tyT x H1/\znj y wa σ H1 λxs H2=>r x xs H2 Q:=by
 obtain ⟨e,P,h0,h⟩:=h
 refine ⟨e,P,h0,ho e _ _ _ _ (λa e1 q v H1 o1 => ?_) (λ_ _ q=>q) h⟩
 obtain ⟨o1,p1⟩:=o1
 obtain ⟨t,q⟩:=q
 obtain ⟨m0,i0,t⟩:=zb8 o1 p1 t
 obtain ⟨G,g⟩:=o1.2.opn
 obtain ⟨F0,w0⟩:=g.ownX _ i0
 refine ⟨zv9 g.ex t w0,e1,pend a v++P,o1,ha e1 _ _ _ _ (λas e2 q us H2 o2 => ?_) (λ_ _ q=>zcq q) q⟩
 obtain ⟨o2,p2⟩:=o2
 obtain ⟨m,m1,q⟩:=za4 o2 (λp z=>yag _ (yai _ z)) p1 q
 obtain ⟨G,g⟩:=o2.2.opn
 obtain ⟨ms,m2,q⟩:=zgt o2 g (λp z=>yai _ z) p2 q
 obtain ⟨F1,w1⟩:=g.ownX _ m1
 rw [show zc9 as us++(pend a v++P)=(zc9 as us++pend a v)++P from (yae _ _ _).symm] at g
 exact hs.run G H2 v m F1 us ms Q g.ex w1 m2 (hs.mono _ _ _ _ (λm q v' H' r'=>q v' H' (g.fin o2.1 r')) q)
theorem xmtC (hm:MtR y.X "tuple.count" r) (hs:SndT y.X.K r op) (ho:SO y o oo) (ha:SA y (e::es) wa) (c:zo5 y o "count" apos cpos e es:=by exact ⟨rfl,rfl,rfl,rfl,rfl⟩) :
 SE y (.Call (.Attribute o "count" apos) (e::es) [] cpos) (wMtO op oo wa) where
 run:=zbb (pe_bmT PySem.F.plainAttrs_tuple PySem.F.slot_tuple_count PySem.F.type_tuple_count hm ho.run ha.run c.base c.few c.line c.star c.plain) λσ H Q q=>zwa hs ho.mono ha.mono σ H Q q
 mono:=ztr hs ho.mono ha.mono
end
section
variable {β:Type} {P:β->Prop} {XP:Xn->Prop} {e:En} {Q:M->En->Prop} {X:XQ} {oo:WO} {wa:WA} {op:M->OPN}
def zts (a:D):R Unit:=need (oTup a) (.ok ())
theorem k_tupo {d:D} {f:Unit->R β} {G:Prop} (h:((zts d).bind f).post P XP) (q:oTup d=true->(f ()).post P XP->G):G:=by
 unfold zts at h
 cases c:oTup d with
 | true =>
   rw [c] at h
   exact q c h
 | false =>
   rw [c] at h
   exact h.elim
theorem k_wmtO (q:oo e (λa e1=>zaS a e1 (λm=>oTup m.d=true)/\wa e1 (λas e2=>zaS a e2 λm=>zbQ as e2 λms=>op m ms λr=>Q r e2) X) X):wMtO op oo wa e Q X:=q
end
def prP (q:Int×Int):PyData:=.tuple [.int q.1,.int q.2]
theorem zy1 (q:Int×Int):(prP q).canLay0=true:=by simp [prP,PyData.canLay0,PyData.canLayAll0]
theorem ztt (q:Int×Int):(prP q).depth=1:=by simp [prP,PyData.depth,PyData.depthAll]
theorem ztu (q r:Int×Int):PySem.W.alike (prP q) (prP r)=true:=by simp [prP,PySem.W.alike,PySem.W.alikeAll]
theorem zlA:∀ qs:List (Int×Int),PyData.depthAll (qs.map prP)<=2
 | []=>by simp [PyData.depthAll]
 | q::qs=>by
   have:=zlA qs
   simp only [yaH,PyData.depthAll,ztt]
   omega
theorem zy2 {q r:Int×Int} (h:prP q=prP r):q=r:=by
 unfold prP at h
 have h:=PyData.tuple.inj h
 have h1:=PyData.int.inj (ycB h).1
 have h2:=PyData.int.inj (ycB (ycB h).2).1
 exact Prod.ext h1 h2
def mnP (q:Int×Int) (qs:List (Int×Int)):Int×Int:=qs.foldl (λa y=>if PySem.W.dataLt (prP y) (prP a) then y else a) q
theorem zwb (q:Int×Int) (qs:List (Int×Int)):PySem.W.minD (prP q) (qs.map prP)=prP (mnP q qs):=by
 unfold PySem.W.minD mnP
 induction qs generalizing q with
 | nil=>rfl
 | cons r qs ih =>
   rw [yaH,yb4,yb4,← ih]
   congr 1
   split<;>rfl
def Prs (K:PySem.W.Frag) (H:Hp):List V->List (Int×Int)->Prop
 | [],[]=>True
 | v::vs,q::qs=>(∃ b,v=.ref b/\SqT K H b [.int q.1,.int q.2])/\Prs K H vs qs
 | _,_=>False
theorem Prs.dp {K:PySem.W.Frag} {H:Hp}:∀ {vs:List V} {qs:List (Int×Int)},Prs K H vs qs->DpAll K H vs (qs.map prP)
 | [],[],_=>.nil
 | v::vs,q::qs,h=>by
   obtain ⟨⟨b,rfl,hb⟩,h⟩:=h
   exact .cons (.tup hb (.cons (.int _) (.cons (.int _) .nil))) (Prs.dp h)
 | [],_::_,h=>h.elim
 | _::_,[],h=>h.elim
def rMinP (K:PySem.W.Frag):List V->Hp->VK->Prop:=λxs H Q=>∃ (a:Addr) (vs:List V) (q:Int×Int) (qs:List (Int×Int)),xs=[V.ref a]/\SqL K H a vs/\Prs K H vs (q::qs)/\∀ (j:Nat) (v:V),vs[j]?=some v->(q::qs)[j]?=some (mnP q qs)->Q v H
theorem znO:∀ {xs:List V} {us:List Value} {i:Nat} {u:Value},Vals xs us->us[i]?=some u->∃ x,xs[i]?=some x/\RelV x u
 | _,_,_,_,.nil,e=>by simp at e
 | _,_,0,_,.cons r _,e=>⟨_,rfl,yaT e▸r⟩
 | _,_,i+1,_,.cons _ t,e=>znO (i:=i) t e
section
variable {X:Cx} {K:PySem.W.Frag}
theorem zy3 (hc:X.calm=true) (hu:X.A.units+64<cLine):CallR X (.builtin "min") (rMinP X.K):=by
 intro pins s σ H xs us Q I r h
 obtain ⟨a,vs,q0,qs,rfl,hs,hp,q⟩:=h
 obtain ⟨its,rv,hl,_⟩:=I.list hs
 rw [Vals.ref1 r]
 obtain ⟨as,h4⟩:=Dp.readsAll I _ _ its hp.dp rv
 rw [yaH] at h4
 refine PySem.W.min_list_data (I.ok.hd hc) hl.isList (vs:=its.toArray) (x:=prP q0) (xs:=qs.map prP) h4 ⟨λx hx y hy => ?_,λx hx => ?_⟩ ?_ λi v h' tk bs hv hr hk => ?_
 ·rw [← yaH (f:=prP)] at hx hy
  obtain ⟨x',_,rfl⟩:=yan.mp hx
  obtain ⟨y',_,rfl⟩:=yan.mp hy
  exact ztu _ _
 ·rw [← yaH (f:=prP)] at hx
  obtain ⟨x',_,rfl⟩:=yan.mp hx
  exact λe=>nomatch e
 ·rw [← yaH (f:=prP)]
  have:=zlA (q0::qs)
  omega
 ·rw [ybv] at hv
  obtain ⟨x,hx,rx⟩:=znO rv hv
  obtain ⟨bs2,r2,hi,_,_⟩:=PySem.W.readsAll_at (show ReadsAll s.heap its (prP q0::qs.map prP) as from h4) i v hv
  rw [zwb] at hr
  rw [← yaH (f:=prP)] at r2 hi
  rw [yac] at hi
  have e1:((q0::qs).map prP).getD i .none=prP (q0::qs)[i]:=by
   rw [yaO,yaI,yak hi]
   rfl
  rw [e1] at r2
  have e2:=PySem.SeqAt.Reads.unique _ _ _ _ _ (zy1 _) (Reads.keeps hk r2) hr
  exact ⟨x,H,I.kept hk,rx,q i x hx (by rw [yak hi,zy2 e2])⟩
end
def prI:D->Option (Int×Int)
 | .tup [.int a,.int b]=>some (a,b)
 | _=>none
def prsI:List D->Option (List (Int×Int))
 | []=>some []
 | d::ds=>match prI d,prsI ds with
   | some q,some qs=>some (q::qs)
   | _,_=>none
def ztv:OPN:=λms k=>one ms λm=>match m.d with
 | .lst ds=>(match prsI ds with
   | some (q::qs)=>k (.fz (.tup [.int (mnP q qs).1,.int (mnP q qs).2]))
   | _=>False)
 | _=>False
section
variable {K:PySem.W.Frag}
theorem znP {G H:Hp} (ex:Ex G H):∀ {vs:List V} {ds:List D} {qs:List (Int×Int)},Reps K G vs ds->prsI ds=some qs->Prs K H vs qs/\∀ (j:Nat) (v:V) (q:Int×Int),vs[j]?=some v->qs[j]?=some q->Rep K G v (.tup [.int q.1,.int q.2])
 | _,_,_,.nil,e=>by
   cases e
   exact ⟨trivial,λj v q h=>nomatch h⟩
 | _,_,_,.cons (d:=d) (ds:=ds) h r,e=>by
   unfold prsI at e
   split at e
   ·rename_i q qs e1 e2
    cases e
    obtain ⟨h1,h2⟩:=znP ex r e2
    unfold prI at e1
    split at e1
    ·cases e1
     refine ⟨⟨?_,h1⟩,λj v q hv hq => ?_⟩
     ·cases h with
      | tup ht rs =>
        cases rs with
        | cons r1 rs =>
          cases rs with
          | cons r2 rs =>
            cases rs
            cases r1
            cases r2
            exact ⟨_,rfl,(ht.mono ex).sqT⟩
     ·cases j with
      | zero =>
        cases hv
        cases hq
        exact h
      | succ j=>exact h2 j v q hv hq
    ·cases e1
   ·cases e
theorem zwc:SndN K (rMinP K) ztv where
 run:=λG H xs ms Q ex ow q=>by
  obtain ⟨v,m,rfl,rfl,⟨F,w⟩,q⟩:=zcx ow q
  split at q
  ·rename_i ds e
   split at q
   ·rename_i q0 qs ei
    obtain ⟨a,vs,rfl,h1,r1⟩:=zbA ex w e
    obtain ⟨h2,h3⟩:=znP ex r1 ei
    exact ⟨a,vs,q0,qs,rfl,.of h1,h2,λj v hv hq=>q _ _ (.same (h3 j v _ hv hq))⟩
   ·exact q.elim
  ·exact q.elim
 mono:=λa q q' h k=>zbv (λm k=>by
  split at k
  ·split at k
   ·exact h _ k
   ·exact k.elim
  ·exact k.elim) k
end
def zrH (a:D):R D:=match a with
 | .lst ds=>(ofO (prsI ds)).bind λqs=>match qs with
   | q::qs=>.ok (.tup [.int (mnP q qs).1,.int (mnP q qs).2])
   | []=>.no
 | _=>.no
section
variable {β:Type} {P:β->Prop} {XP:Xn->Prop} {ma:M} {k:M->Prop}
theorem k_minP {f:D->R β} (h:((zrH ma.d).bind f).post P XP) (q:∀ v,(f v).post P XP->k (.fz v)):ztv [ma] k:=by
 unfold zrH at h
 show (match ma.d with
  | .lst ds=>(match prsI ds with
    | some (q::qs)=>k (.fz (.tup [.int (mnP q qs).1,.int (mnP q qs).2]))
    | _=>False)
  | _=>False)
 split at h
 ·rename_i e
  try rw [e]
  try dsimp only
  obtain ⟨qs,e,h⟩:=zbf h
  try rw [e]
  cases qs with
  | nil=>exact h.elim
  | cons q0 qs=>exact q _ h
 ·exact h.elim
end
def znQ (C:Addr) (p:Nat) (f:Str) (dx:Addr) (fs:List (Str×V×FM)) (u:V) (Q:M->En->Prop) (e1:En) (d:D) (m':M):Prop:=match toF m' with
 | some fm=>Q (.fz d) (e1.set p (some (.ob C dx (setM f (u,fm) fs))))
 | none=>False
def zrI (T:String) (op:OPM) (C:Addr) (p:Nat) (f:Str) (u:V) (Q:M->En->Prop) (as:List Opd) (e1:En):Prop:=match e1[p]? with
 | some (some (.ob C' dx fs))=>C'=C/\(match fs.lookup f with
   | some x=>x.1=u/\isTy T x.2.m=true/\zbQ as (e1.set p (some (.ob C dx (setM f (x.1,.fz .opq) fs)))) λms=>op x.2.m ms λd m'=>znQ C p f dx fs x.1 Q e1 d m'
   | none=>False)
 | _=>False
def zmJ (T:String) (op:OPM) (C:Addr) (p:Nat) (f:Str) (wa:WA):WE:=λe Q X=>match e[p]? with
 | some (some (.ob C' _ fs))=>C'=C/\(match fs.lookup f with
   | some x=>isTy T x.2.m=true/\wa e (λas e1=>zrI T op C p f x.1 Q as e1) X
   | none=>False)
 | _=>False
section
variable {y:Y} {T id:String} {name:Str} {op:OPM} {C:Addr} {p:Nat} {f:Str} {wa:WA} {r:V->List V->Hp->VK->Prop} {x:Str} {px ap apos cpos:Pos} {e:Expr} {es:List Expr}
theorem zrJ {dx:Addr} {fs:List (Str×V×FM)} {u:V} {Q Q':M->En->Prop} {e1:En} {d:D} {m':M} (h:∀ m e,Q m e->Q' m e) (q:znQ C p f dx fs u Q e1 d m'):znQ C p f dx fs u Q' e1 d m':=by
 unfold znQ at *
 split at q
 ·exact h _ _ q
 ·exact q.elim
theorem zrK {K:PySem.W.Frag} (hs:SndM K T r op) (ha:zfS wa):zcp (zmJ T op C p f wa):=λe Q Q' X X' hq hx q=>by
 unfold zmJ at *
 split at q
 ·refine ⟨q.1,?_⟩
  have q:=q.2
  split at q
  ·refine ⟨q.1,ha _ _ _ _ _ (λas e1 q => ?_) hx q.2⟩
   unfold zrI at *
   split at q
   ·refine ⟨q.1,?_⟩
    have q:=q.2
    split at q
    ·exact ⟨q.1,q.2.1,zdA (λms q=>hs.mono _ _ _ _ (λd m q=>zrJ hq q) q) q.2.2⟩
    ·exact q.elim
   ·exact q.elim
  ·exact q.elim
 ·exact q.elim
theorem zy4 (pa:PlainAttrs T) (slot:Slot T name id) (hty:typeOf (.builtin id)=pure (.type "method_descriptor")) (hm:MtR y.X id r) (hs:SndM y.X.K T r op) (hc:Cls y.X.K C) (hn:NoAttr y.X.K C f)
 (c:zo5 y (.Attribute (.Name x px) f ap) name apos cpos e es) (hb:attributeBase (.Name x px) f y.X.env (eval (.Name x px) y.X.env)=eval (.Name x px) y.X.env)
 (hN:y.X.N[p]?=some x) (hv:Vis y.X.env.scope x) (hd:(x==("__debug__" : Str))=false) (hcd:(x==("__classdict__" : Str))=false) (ha:SA y (e::es) wa) :
 SE y (.Call (.Attribute (.Attribute (.Name x px) f ap) name apos) (e::es) [] cpos) (zmJ T op C p f wa) where
 run:=zbb (pe_bm pa slot hty hm (pe_fld (pe_var hN hv hd hcd) hb) ha.run c.base c.few c.line c.star c.plain) λσ H Q ⟨e,P,h0,q⟩=>by
  unfold zmJ at q
  split at q
  ·rename_i C' dx fs em
   obtain ⟨rfl,q⟩:=q
   split at q
   ·rename_i u el
    obtain ⟨a0,ev,ho⟩:=h0.obj em
    obtain ⟨t0,q⟩:=q
    have of:=h0.fldOut em el
    obtain ⟨G,g⟩:=of.2.opn
    obtain ⟨F,w⟩:=g.own (u.1,u.2.m) (yag _ yaa)
    refine ⟨_,ev,a0,_,dx,_,u.1,rfl,ho,hc,hn,zhJ f el,zpY t0 w,e,P,h0,ha.mono _ _ _ _ _ (λas e1 q vs H1 o => ?_) (λ_ _ q=>q) q⟩
    obtain ⟨o,p1⟩:=o
    unfold zrI at q
    split at q
    ·rename_i C2 dx2 fs2 em2
     obtain ⟨rfl,q⟩:=q
     split at q
     ·rename_i u2 el2
      obtain ⟨eu,tm,q⟩:=q
      have o':Ok y.X.K H1 σ e1 (zc9 as vs++P):=o
      have om:=o'.fldOut em2 el2
      obtain ⟨G1,p1',F1,epr,w1,ex1,oth,up⟩:=(om.2.perm yad).mutR (zma tm)
      obtain ⟨ms,ins,q⟩:=zjU om (λp z=>yab _ (yai _ z)) p1 q
      rw [epr] at w1
      have ow:Owns y.X.K G1 H1 vs ms:=by
       refine Ins.owns (L:=exL (prs σ (e1.set p (some (.ob C2 dx2 (setM f (u2.1,.fz .opq) fs2))))++((u2.1,u2.2.m)::(zc9 as vs++P)))) (λq z => ?_) ins
       rcases zjo (zjp (yad (l₁:=prs σ (e1.set p (some (.ob C2 dx2 (setM f (u2.1,.fz .opq) fs2)))))) z) with z | z | z
       ·exact ⟨F1,z▸epr▸w1⟩
       ·rw [show zoW (u2.1,u2.2.m).2=[] from zjt (zma tm)] at z
        exact nomatch z
       ·exact oth q z
      rw [← eu,epr]
      refine hs.run G1 H1 p1' u2.2.m F1 vs ms Q ex1 w1 ow (hs.mono _ _ _ _ (λd m' q v' H' rv mo => ?_) q)
      unfold znQ at q
      split at q
      ·rename_i fm et
       cases zyP et
       refine q v' H' ?_
       have z:=up _ _ mo _ _ rv
       have z':Ok y.X.K H' σ (e1.set p (some (.ob C2 dx2 (setM f (u2.1,.fz .opq) fs2)))) ((u2.1,fm.m)::(v',.fz d)::(zc9 as vs++P)):=⟨om.1,z.perm (by
        rw [epr]
        refine (List.Perm.swap _ _ _).trans ?_
        refine List.Perm.trans ?_ yad.symm
        refine List.Perm.cons _ ?_
        exact yad.symm)⟩
       have hp:p<e1.length:=(yal.mp em2).1
       have z2:=z'.fldIn (i:=p) (by rw [yaM hp]) (zhK f _ fs2)
       rw [ybh,zkc] at z2
       exact Ok.pops (P:=zc9 as vs) (z2.perm (yad (l₁:=zc9 as vs)).symm)
      ·exact q.elim
     ·exact q.elim
    ·exact q.elim
   ·exact q.elim
  ·exact q.elim
 mono:=zrK hs ha.mono
end
theorem lc_own {y:Y} {tge:Expr} {t:Tg} {tt:WT} {te:WE} {own:List Nat} {σ:L2.St} {H1:Hp} {Q:VK} (htp:(isTp tge && !t.isTp)=false) (ht:ze6 tt) (he:zcp te) (hs:∀ i∈t.slots,i∈own)
 {ds:List D} {e1:En} {J:It} {R P:List (V×M)} {dd:Addr} (kf:List D->En->Prop) (hlen:ds.length<=sizeLine) (q:lcGo t tt te own ds [] (zbc e1 own) kf) (wk:Walks y.X.K (isTp tge) J ds R) (o:Ok y.X.K H1 σ e1 (R++P)) (hD:H1 dd=none)
 (hk:∀ acc e2 v H',kf acc e2->Ok y.X.K H' σ (zbd e1 own e2) ((v,.lst acc)::(R++P))->Q v H') :
 ∃ W:Nat→Nat→Hp→Prop,(∃ m,W 0 m (upd H1 dd (.lst [])))∧∀ i m H,W i m H→(J.stop i H∧Q (.ref dd) H) ∨
   (J.go i H/\∃ Nx:Hp->Prop,(∀ H',Nx H'->∃ m',m'<m/\W (i+1) m' H')/\∀ x H',J.yld i H x H'->(t.tg y.X.K) x (wipe σ own) H' λσ2 H2=>wipe σ2 own=wipe σ own/\(zrd ⟨y.X,y.xr,λ_ _ _ _=>False⟩ tt) σ2 H2 λb H3 =>
    if b=true then (zgK ⟨y.X,y.xr,λ_ _ _ _=>False⟩ te) σ2 H3 λy H4=>∃ acc,H4 dd=some (.lst acc)/\acc.length<sizeLine/\Nx (upd H4 dd (.lst (acc++[y]))) else Nx H3):=by
 obtain ⟨G,g⟩:=o.2.opn
 have oD:Ok y.X.K (upd H1 dd (.lst [])) σ e1 ((.ref dd,.lst [])::(R++P)):=⟨o.1,(g.res _ _ _ (.lst hD .nil)).perm yad.symm⟩
 obtain ⟨S,oS,back⟩:=oD.hide own
 let Bd:=λ(i:Nat) (H':Hp)=>∃ (e':En) (acc:List D),e'.length=e1.length/\acc.length<=i/\Ok y.X.K H' (wipe σ own) e' (S++((.ref dd,.lst acc)::(R++P))) /\
  lcGo t tt te own (ds.drop i) acc e' kf
 refine ⟨λi m H'=>m=ds.length-i/\i<=ds.length/\Bd i H',⟨ds.length,by simp,ybd _,_,[],zca _ _,yaj _,oS,q⟩,?_⟩
 rintro i m H' ⟨rfl,hi,e',acc,el,al,o',q'⟩
 have hsep:Sep y.X.K H' (R++(prs (wipe σ own) e'++(S++((.ref dd,.lst acc)::P)))):=o'.2.perm (by
  have p1:(S++((V.ref dd,M.lst acc)::(R++P))).Perm (R++(S++((V.ref dd,M.lst acc)::P))):=by
   refine (yad (l₁:=S)).trans ?_
   refine List.Perm.trans ?_ ((yad (l₁:=S)).symm.append_left R)
   refine List.Perm.trans ?_ yad.symm
   refine List.Perm.cons _ ?_
   rw [← yae,← yae]
   exact yaC.append_right _
  exact (p1.append_left _).trans (zfU _ _ _))
 by_cases hlt:i<ds.length
 ·rw [ybj hlt] at q'
  obtain ⟨g1,g2⟩:=wk.go i H' _ ds[i] hsep (yak hlt)
  refine .inr ⟨g1,λH2=>Bd (i+1) H2,λH2 n=>⟨ds.length-(i+1),by omega,rfl,hlt,n⟩,λx H2 yl => ?_⟩
  have sx:=g2 x H2 yl
  unfold lcGo at q'
  split at q'
  ·rename_i e2 ea
   have pm:(R++(prs (wipe σ own) e'++(S++((V.ref dd,M.lst acc)::P)))).Perm (prs (wipe σ own) e'++(S++((V.ref dd,M.lst acc)::(R++P)))):=by
    have p1:(R++(S++((V.ref dd,M.lst acc)::P))).Perm (S++((V.ref dd,M.lst acc)::(R++P))):=by
     refine List.Perm.trans ?_ (yad (l₁:=S)).symm
     refine ((yad (l₁:=S)).append_left R).trans ?_
     refine yad.trans ?_
     refine List.Perm.cons _ ?_
     rw [← yae,← yae]
     exact yaC.append_right _
    exact List.Perm.trans (zfU _ _ _) (p1.append_left _)
   refine t.okG sx o'.1 pm htp ea λσ3 o3 bt => ?_
   have w3:wipe σ3 own=wipe (wipe σ own) own:=zjq bt hs
   have ww:wipe (wipe σ own) own=wipe σ own:=zjq (own:=own) ⟨wipe_length _ _,λj z=>by
    have k2:∀ vs:List Nat,j∉vs->(wipe σ vs)[j]?=σ[j]?:=by
     intro vs
     induction vs with
     | nil=>intro _; rfl
     | cons k vs ih =>
       intro hn
       unfold wipe
       rw [yaK λz=>hn (by simp [z])]
       exact ih λz=>hn (yab _ z)
    exact k2 own z⟩ λ_ z=>z
   refine ⟨w3.trans ww,?_⟩
   refine ⟨e2,_,o3,ht _ _ _ _ _ (λb e3 q H3 o4 => ?_) (λ_ _ q=>q.elim) q'⟩
   cases b with
   | true =>
     rw [yaw rfl] at q ⊢
     refine ⟨e3,_,o4,he _ _ _ _ _ (λm e4 q v H4 o5 => ?_) (λ_ _ q=>q.elim) q⟩
     have o6:Ok y.X.K H4 σ3 e4 ((.ref dd,.lst acc)::(v,.fz m.d)::(S++(R++P))):=(Ok.freeze o5).perm (by
      refine List.Perm.trans ?_ (List.Perm.swap _ _ _)
      exact List.Perm.cons _ yad)
     obtain ⟨G,p,F,ep,w,ex,oth,up,_,_⟩:=(o6.2.perm yad).mut rfl
     cases ep
     cases w with
     | lst hp rs =>
       refine ⟨_,hp,?_,e4.length |> λ_ => ?_⟩
       ·rw [rs.length]
        exact yby (ycm al hlt) hlen
       ·obtain ⟨F2,w2⟩:=oth (v,.fz m.d) (yag _ yaa)
        cases w2 with
        | fz w2 =>
          have z:=up _ _ (rs.append (.one w2))
          have o7:Ok y.X.K (upd H4 dd (.lst (_++[v]))) σ3 e4 ((.ref dd,.lst (acc++[m.d]))::(v,.fz m.d)::(S++(R++P))):=⟨o6.1,z.perm yad.symm⟩
          have o8:Ok y.X.K (upd H4 dd (.lst (_++[v]))) σ3 e4 (S++((.ref dd,.lst (acc++[m.d]))::(R++P))):=Ok.perm (Ok.pop (Ok.perm o7 (List.Perm.swap _ _ _))) yad.symm
          refine ⟨zbc e4 own,acc++[m.d],?_,by simp; exact al,?_,q⟩
          ·rw [zca,o8.1.length,bt.1,← o'.1.length,el]
          ·have o9:=o8.wiped own
           rw [w3,ww] at o9
           exact o9
   | false =>
     rw [yaz yax] at q ⊢
     refine ⟨zbc e3 own,acc,?_,ycw al,?_,q⟩
     ·rw [zca,o4.1.length,bt.1,← o'.1.length,el]
     ·have o9:=o4.wiped own
      rw [w3,ww] at o9
      exact o9
  ·exact q'.elim
 ·have e0:i=ds.length:=by omega
  subst e0
  rw [ybX] at q'
  refine .inl ⟨wk.stop _ H' _ hsep (yaj _),?_⟩
  exact hk acc e' (.ref dd) H' q' (back H' e' ((.ref dd,.lst acc)::(R++P)) el o')
structure SIf (y:Y) (en:Bool) (tg iter:Expr) (C:Addr) (p:Nat) (f:Str):Prop where
 run:PI y.X tg iter (λσ H R'=>∃ e P dx fs u m ds,Ok y.X.K H σ e P/\e[p]?=some (some (.ob C dx fs))/\fs.lookup f=some (u,m)/\zj7 en m.m=some ds /\
  ∀ J H1,Walks y.X.K (isTp tg) J ds [(u,m.m)]->Ok y.X.K H1 σ (e.set p (some (.ob C dx (setM f (u,.fz .opq) fs)))) ((u,m.m)::P)->R' J H1)
def lcFK (p:Nat) (f:Str) (u:V) (m:FM) (Q:M->En->Prop) (r:M) (e3:En):Prop:=match e3[p]? with
 | some (some (.ob C dx fs))=>(match fs.lookup f with
   | some z=>z.1=u/\Q r (e3.set p (some (.ob C dx (setM f (u,m) fs))))
   | none=>False)
 | _=>False
def wLcF (en:Bool) (C:Addr) (p:Nat) (f:Str) (t:Tg) (tt:WT) (te:WE) (own:List Nat):WE:=λe Q _=>match e[p]? with
 | some (some (.ob C' dx fs))=>C'=C/\(match fs.lookup f with
   | some x=>(match zj7 en x.2.m with
     | some ds=>lcK t tt te own (lcFK p f x.1 x.2 Q) ds (e.set p (some (.ob C dx (setM f (x.1,.fz .opq) fs))))
     | none=>False)
   | none=>False)
 | _=>False
theorem ztw {p:Nat} {f:Str} {u:V} {m:FM} {Q Q':M->En->Prop} {r:M} {e3:En} (h:∀ m e,Q m e->Q' m e) (q:lcFK p f u m Q r e3):lcFK p f u m Q' r e3:=by
 unfold lcFK at *
 split at q
 ·split at q
  ·exact ⟨q.1,h _ _ q.2⟩
  ·exact q.elim
 ·exact q.elim
theorem znR {en:Bool} {C:Addr} {p:Nat} {f:Str} {t:Tg} {tt:WT} {te:WE} {own:List Nat} (ht:ze6 tt) (he:zcp te):zcp (wLcF en C p f t tt te own):=λe Q Q' X X' hq hx q=>by
 unfold wLcF at *
 split at q
 ·refine ⟨q.1,?_⟩
  have q:=q.2
  split at q
  ·split at q
   ·exact ⟨q.1,zhw ht he _ _ _ _ _ (λ_ _ q=>ztw hq q) q.2⟩
   ·exact q.elim
  ·exact q.elim
 ·exact q.elim
theorem zwd {y:Y} {en:Bool} {tge iter:Expr} {C:Addr} {p:Nat} {f:Str} {t:Tg} {tt:WT} {te:WE} {own:List Nat} {σ:L2.St} {H:Hp} {Q:VK} (htp:(isTp tge && !t.isTp)=false) (ht:ze6 tt) (he:zcp te) (hs:∀ i∈t.slots,i∈own)
 (h:zgK y (wLcF en C p f t tt te own) σ H Q):tLc (λσ H R'=>∃ e P dx fs u m ds,Ok y.X.K H σ e P/\e[p]?=some (some (.ob C dx fs))/\fs.lookup f=some (u,m)/\zj7 en m.m=some ds /\
 ∀ J H1,Walks y.X.K (isTp tge) J ds [(u,m.m)]->Ok y.X.K H1 σ (e.set p (some (.ob C dx (setM f (u,.fz .opq) fs)))) ((u,m.m)::P)->R' J H1) (t.tg y.X.K) (zrd ⟨y.X,y.xr,λ_ _ _ _=>False⟩ tt) (zgK ⟨y.X,y.xr,λ_ _ _ _=>False⟩ te) own σ H Q:=by
 obtain ⟨e,P,h0,q⟩:=h
 unfold wLcF at q
 split at q
 ·rename_i C' dx fs em
  obtain ⟨rfl,q⟩:=q
  split at q
  ·rename_i u el
   split at q
   ·rename_i ds ed
    refine ⟨e,P,dx,fs,u.1,u.2,ds,h0,em,el,ed,λJ H1 wk o dd hD => ?_⟩
    refine lc_own (P:=P) htp ht he hs _ q.1 q.2 wk o hD λacc e2 v H' k o2 => ?_
    unfold lcFK at k
    split at k
    ·rename_i C2 dx2 fs2 em2
     split at k
     ·rename_i z el2
      obtain ⟨ez,k⟩:=k
      have o3:Ok y.X.K H' σ (zbd (e.set p (some (.ob C' dx (setM f (u.1,.fz .opq) fs)))) own e2) ((u.1,u.2.m)::(v,.lst acc)::P):=o2.perm (.swap _ _ _)
      have el3:fs2.lookup f=some (u.1,z.2):=by rw [el2,← ez]
      exact k v H' (o3.fldIn em2 el3)
     ·exact k.elim
    ·exact k.elim
   ·exact q.elim
  ·exact q.elim
 ·exact q.elim
section
variable {y:Y}
theorem zy5 {C:Addr} {p:Nat} {x f:Str} {px ap q pos tpos:Pos} {elts:List Expr} {kk:Nat} (hg:Gl y.X "enumerate") (hm:y.X.mg "enumerate" = none) (hc:Cls y.X.K C) (hn:NoAttr y.X.K C f)
 (hN:y.X.N[p]?=some x) (hv:Vis y.X.env.scope x) (hd:(x==("__debug__" : Str))=false) (hcd:(x==("__classdict__" : Str))=false)
 (hb:attributeBase (.Name x px) f y.X.env (eval (.Name x px) y.X.env)=eval (.Name x px) y.X.env)
 (hs:starEach [Expr.Attribute (.Name x px) f ap] y.X.env=[(false,eval (.Attribute (.Name x px) f ap) y.X.env)]):SIf y true (.Tuple elts kk tpos) (.Call (.Name "enumerate" q) [.Attribute (.Name x px) f ap] [] pos) C p f:=by
 refine ⟨⟨λpins s σ H R I ⟨e,P,dx,fs,v',mm,ds,h0,em,el,eds,q⟩ => ?_⟩⟩
 obtain ⟨a0,ev,ho⟩:=h0.obj em
 refine Call_ (ld_blt I hg hm boot_enumerate (ybe (thn ((pa_cons (pe_fld (pe_var hN hv hd hcd) hb) pa_nil).run pos pins s σ H (λus H1=>us=[v']/\H1=H) I ⟨_,ev,a0,C,dx,_,v',rfl,ho,hc,hn,zhJ f el,rfl,rfl⟩) λus s1 ⟨vs,H1,I1,r1,e1,e2⟩ => ?_) hs rfl))
 subst e1 e2
 have o:=h0.fldOut em el
 generalize mm.m=m at eds q o
 cases r1 with
 | cons r rr =>
   cases rr
   have fresh:∀ {h':Heap} {T:Addr->Prop},(∀ b u,s1.heap.get? b=some u->h'.get? b=some u)->∀ b∈[s1.heap.objs.size+1,s1.heap.objs.size],FpOk y.X pins H1 b:=by
    intro h' T _ b hb
    have le:s1.heap.objs.size<=b:=by
     rcases yap.mp hb with z | z
     ·omega
     ·have:=yah.mp z
      omega
    exact I1.fpOk le (I1.hok.fresh le)
   obtain ⟨G,g⟩:=o.2.opn
   obtain ⟨F,w⟩:=g.own (v',m) (yag _ yaa)
   cases w with
   | lst hs' rs =>
     cases eds
     cases r
     obtain ⟨its,rv,p1,_⟩:=I1.list (SqL.of (K:=y.X.K) (hs'))
     refine call_enumerate_list p1.isList λh' he hit _ hk=>wpAny_pyIter_enum he ?_
     have I2:Inv y.X pins σ H1 { s1 with heap:=h' }:=I1.kept (t':=s1.toks) hk
     exact ⟨s1.heap.objs.size+1,[s1.heap.objs.size+1,s1.heap.objs.size],_,_,H1,rfl,I2,turn_enum _ (s1.heap.objs.size+1) s1.heap.objs.size,⟨⟨.none,he⟩,hit,ybA _⟩,fresh (T:=λ_=>True) hk,q _ H1 zlt o⟩
   | fz w =>
     cases w with
     | lst hs' rs =>
       cases eds
       cases r
       obtain ⟨its,rv,p1,_⟩:=I1.list (SqL.of (K:=y.X.K) (g.ex.keep hs'))
       refine call_enumerate_list p1.isList λh' he hit _ hk=>wpAny_pyIter_enum he ?_
       have I2:Inv y.X pins σ H1 { s1 with heap:=h' }:=I1.kept (t':=s1.toks) hk
       exact ⟨s1.heap.objs.size+1,[s1.heap.objs.size+1,s1.heap.objs.size],_,_,H1,rfl,I2,turn_enum _ (s1.heap.objs.size+1) s1.heap.objs.size,⟨⟨.none,he⟩,hit,ybA _⟩,fresh (T:=λ_=>True) hk,q _ H1 zj6 o⟩
     | @tup a vs ds2 ht rs =>
       cases eds
       cases r
       have sq:SqT y.X.K H1 a vs:=(ht.mono g.ex).sqT
       obtain ⟨its,rv,p1,_⟩:=I1.tuple sq
       have tp:s1.heap.IsTuple a its.toArray:=p1
       have la:a<s1.heap.objs.size:=by
        obtain ⟨_,z,_⟩:=p1
        exact Heap.lt_size z
       refine zpc (begins_tuple a its.toArray) tp λh' he hit hk=>wpAny_pyIter_enum he ?_
       have I2:Inv y.X pins σ H1 { s1 with heap:=h' }:=I1.kept (t':=s1.toks) hk
       exact ⟨s1.heap.objs.size+1,[s1.heap.objs.size+1,s1.heap.objs.size],_,_,H1,rfl,I2,zmy a (s1.heap.objs.size+1) s1.heap.objs.size ds2.length,⟨⟨.none,he⟩,⟨_,hit,rfl,rfl⟩,ybA _,ya5 la,ya5 (ycb la),ybd _⟩,fresh (T:=λ_=>True) hk,q _ H1 zj5 o⟩
     | non=>cases eds
     | bl _=>cases eds
     | int _=>cases eds
     | str _=>cases eds
     | ty _=>cases eds
     | opq _=>cases eds
     | att _ _=>cases eds
     | adr _=>cases eds
     | atx _ _=>cases eds
     | scr _=>cases eds
     | dK _ _=>cases eds
     | dT _ _=>cases eds
   | dK _ _=>cases eds
   | dT _ _=>cases eds
   | lk _ _=>cases eds
   | bx _ _ _ _=>cases eds
   | dq _=>cases eds
   | dA _ _=>cases eds
   | ob _ _=>cases eds
end
section
variable {y:Y} {κ:List (Nat×V)} {cx f x:Str} {C:Addr} {fs:List Str} {e:Expr} {es:List Expr} {ws:WA}
theorem xfldE {px ap q pos tpos:Pos} {elts:List Expr} {kk:Nat} (p:Nat) (c:ClsD y.X.K y.X.mg cx C fs) (hm:y.X.mg "enumerate" = none) (hf:f∈fs:=by decide) (hg:Gl y.X "enumerate" := by rfl) (hN:y.X.N[p]?=some x:=by rfl)
 (hv:Vis y.X.env.scope x:=by first | exact .inl rfl | exact .inr (.inl rfl) | exact .inr (.inr rfl)) (hd:(x==("__debug__" : Str))=false:=by decide) (hcd:(x==("__classdict__" : Str))=false:=by decide)
 (hb:attributeBase (.Name x px) f y.X.env (eval (.Name x px) y.X.env)=eval (.Name x px) y.X.env:=by rfl)
 (hs:starEach [Expr.Attribute (.Name x px) f ap] y.X.env=[(false,eval (.Attribute (.Name x px) f ap) y.X.env)]:=by rfl):SIf y true (.Tuple elts kk tpos) (.Call (.Name "enumerate" q) [.Attribute (.Name x px) f ap] [] pos) C p f:=zy5 hg hm c.cls (c.no f hf) hN hv hd hcd hb hs
theorem xmF {T id:String} {name:Str} {op:OPM} {r:V->List V->Hp->VK->Prop} {px ap apos cpos:Pos} (p:Nat) (c:ClsD y.X.K y.X.mg cx C fs) (pa:PlainAttrs T) (slot:Slot T name id) (hty:typeOf (.builtin id)=pure (.type "method_descriptor")) (hm:MtR y.X id r) (hs:SndM y.X.K T r op)
 (ha:SA y (e::es) ws) (hf:f∈fs:=by decide) (cc:zo5 y (.Attribute (.Name x px) f ap) name apos cpos e es:=by exact ⟨rfl,rfl,rfl,rfl,rfl⟩) (hb:attributeBase (.Name x px) f y.X.env (eval (.Name x px) y.X.env)=eval (.Name x px) y.X.env:=by rfl)
 (hN:y.X.N[p]?=some x:=by rfl) (hv:Vis y.X.env.scope x:=by first | exact .inl rfl | exact .inr (.inl rfl) | exact .inr (.inr rfl)) (hd:(x==("__debug__" : Str))=false:=by decide) (hcd:(x==("__classdict__" : Str))=false:=by decide) :
 SE y (.Call (.Attribute (.Attribute (.Name x px) f ap) name apos) (e::es) [] cpos) (zmJ T op C p f ws):=zy4 pa slot hty hm hs c.cls (c.no f hf) cc hb hN hv hd hcd ha
end
section
variable {e:En} {Q:M->En->Prop} {X:XQ} {T:String} {op:OPM} {C dx:Addr} {p:Nat} {f:Str} {wa:WA} {fs:List (Str×V×FM)} {u:V} {fm:FM} {as:List Opd} {t:Tg} {tt:WT} {te:WE} {own:List Nat} {en:Bool}
theorem zxr (h:e[p]?=some (some (.ob C dx fs))) (hl:fs.lookup f=some (u,fm)) (ht:isTy T fm.m=true) (q:wa e (λas e1=>zrI T op C p f u Q as e1) X):zmJ T op C p f wa e Q X:=by
 unfold zmJ
 rw [h]
 refine ⟨rfl,?_⟩
 rw [hl]
 exact ⟨ht,q⟩
theorem ztx (h:e[p]?=some (some (.ob C dx fs))) (hl:fs.lookup f=some (u,fm)) (ht:isTy T fm.m=true) (q:zbQ as (e.set p (some (.ob C dx (setM f (u,.fz .opq) fs)))) λms=>op fm.m ms λd m'=>znQ C p f dx fs u Q e d m'):zrI T op C p f u Q as e:=by
 unfold zrI
 rw [h]
 refine ⟨rfl,?_⟩
 rw [hl]
 exact ⟨rfl,ht,q⟩
theorem zty {d:D} {m':M} {fm':FM} (hm:toF m'=some fm') (q:Q (.fz d) (e.set p (some (.ob C dx (setM f (u,fm') fs))))):znQ C p f dx fs u Q e d m':=by
 unfold znQ
 rw [hm]
 exact q
theorem k_lcF {ds:List D} (h:e[p]?=some (some (.ob C dx fs))) (hl:fs.lookup f=some (u,fm)) (hd:zj7 en fm.m=some ds) (q:lcK t tt te own (lcFK p f u fm Q) ds (e.set p (some (.ob C dx (setM f (u,.fz .opq) fs))))):wLcF en C p f t tt te own e Q X:=by
 unfold wLcF
 rw [h]
 refine ⟨rfl,?_⟩
 rw [hl]
 dsimp only
 rw [hd]
 exact q
theorem k_lcFK {r:M} {m0:FM} (h:e[p]?=some (some (.ob C dx fs))) (hl:fs.lookup f=some (u,m0)) (q:Q r (e.set p (some (.ob C dx (setM f (u,fm) fs))))):lcFK p f u fm Q r e:=by
 unfold lcFK
 rw [h]
 dsimp only
 rw [hl]
 exact ⟨rfl,q⟩
end
instance (i j:Int):Decidable (CMulW i j):=inferInstanceAs (Decidable (_<_))
instance (i j:Int):Decidable (CDivW i j):=inferInstanceAs (Decidable (_/\_))
def zlB:OP2:=opII CMulW λi j=>.int (i*j)
def znS:OP2:=opII CDivW λi j=>.int (i / j)
theorem zjx {K:PySem.W.Frag}:Snd2 K (rI CMulW λi j=>.int (i*j)) zlB:=zlj λ_ _=>rfl
theorem zmK {K:PySem.W.Frag}:Snd2 K (rI CDivW λi j=>.int (i / j)) znS:=zlj λ_ _=>rfl
def zgL:D->D->R D:=nII CMulW λi j=>.int (i*j)
def zim:D->D->R D:=nII CDivW λi j=>.int (i / j)
def zrL (a b:D):R (List D):=match a,b with
 | .lst ds,.int k=>need (decide (-(2 ^ 63)<=k)&&decide (k<2 ^ 63)&&decide (ds.length*k.toNat<=sizeLine)) (.ok (repD ds k))
 | _,_=>.no
section
variable {β:Type} {P:β->Prop} {XP:Xn->Prop} {ma mb:M} {k:M->Prop}
theorem zqv {f:D->R β} (h:((zgL ma.d mb.d).bind f).post P XP) (q:∀ v,(f v).post P XP->k (.fz v)):zlB ma mb k:=k_II h q
theorem ztz {f:D->R β} (h:((zim ma.d mb.d).bind f).post P XP) (q:∀ v,(f v).post P XP->k (.fz v)):znS ma mb k:=k_II h q
theorem ztA {f:List D->R β} (h:((zrL ma.d mb.d).bind f).post P XP) (q:∀ v,(f v).post P XP->k (.lst v)):ze8 ma mb k:=by
 unfold zrL at h
 split at h
 ·rename_i ds i e1 e2
  obtain ⟨c,h⟩:=za7 h
  simp only [yas,yaq] at c
  exact zs1 e1 e2 c.1.1 c.1.2 c.2 (q _ h)
 ·exact h.elim
end
section
variable {y:Y} {κ:List (Nat×V)} {elt tg iter:Expr} {ifs:List Expr} {scope:Scope} {pos:Pos} {own:List (Str×Nat)} {t:Tg} {tt:WT} {te:WE} {en:Bool} {C:Addr} {p:Nat} {f:Str}
theorem ztB {i:Nat} {x:Str} {py spos:Pos} (hc:y.X.calm=true) (hN:y.X.N.Nodup) (hy:y.X.N[i]?=some x) (hyl:y.X.env.scope.names.lookup x=some .local)
 (hsw:swapsWith (.ListComp elt [⟨tg,iter,ifs,0⟩] scope pos) (some (.Name x py)) spos.line y.X.env=pure true) (hi:SIf y en tg iter C p f) (ok:BlkOk y.X.N y.X.env.scope scope own)
 (hg:∀ s H C cl fp,PG (y.blk s H scope C cl fp).X tg (t.tg y.X.K)) (ht:∀ s H C cl fp,STs (y.blk s H scope C cl fp) ifs tt) (he:∀ s H C cl fp,SE (y.blk s H scope C cl fp) elt te)
 (hs:∀ x,foldedSetIterable iter y.X.env x=pure x) (ho:∀ i∈t.slots,i∈own.map (·.2)) (mt:ze6 tt) (me:zcp te) (hκ:∀ p∈κ,p.1≠i) (htp:(isTp tg && !t.isTp)=false):SS y κ (.Assign [.Name x py] (.ListComp elt [⟨tg,iter,ifs,0⟩] scope pos) spos) (sSet i (wLcF en C p f t tt te (own.map (·.2)))) where
 run:=zeB (ps_setLc hc hN hy hyl hsw hi.run ok (λs H C cl fp=>hg s H C cl fp) (λs H C cl fp=>(ht s H C cl fp).run) (λs H C cl fp=>(he s H C cl fp).run) hs) λD σ H ⟨e,P,hk,h0,q⟩ =>
  zwd (y:=y) (iter:=iter) htp mt me ho ⟨e,P,h0,znR mt me _ _ _ _ _ (λm e1 q v H1 o=>q _ H1 (hk.set hκ) (zfg i o)) (λ_ _ q c d H' r o=>q σ c d H' hk r o) q⟩
 mono:=λE E' e l q=>znR mt me _ _ _ _ _ (λ_ _ q=>l.nx _ q) l.ex q
theorem zy6 {x:Str} {py:Pos} {p2:Pos} (i:Nat) (own:List (Str×Nat)) (ownS:List Nat) (hc:y.X.calm=true) (nd:y.X.N.Nodup) (hi:SIf y en tg iter C p f) (ok:BlkOk y.X.N y.X.env.scope scope own)
 (hg:∀ s H C cl fp,PG (y.blk s H scope C cl fp).X tg (t.tg y.X.K)) (ht:∀ s H C cl fp,STs (y.blk s H scope C cl fp) ifs tt) (he:∀ s H C cl fp,SE (y.blk s H scope C cl fp) elt te)
 (hκ:∀ p∈κ,p.1≠i:=by exact zqe rfl) (hy:y.X.N[i]?=some x:=by rfl) (hyl:y.X.env.scope.names.lookup x=some .local:=by rfl) (hsw:swapsWith (.ListComp elt [⟨tg,iter,ifs,0⟩] scope pos) (some (.Name x py)) p2.line y.X.env=pure true:=by rfl)
 (hos:own.map (·.2)=ownS:=by rfl) (hs:∀ x,foldedSetIterable iter y.X.env x=pure x:=by exact λ_=>rfl) (ho:∀ i∈t.slots,i∈own.map (·.2):=by decide) (htp:(isTp tg && !t.isTp)=false:=by rfl):SS y κ (.Assign [.Name x py] (.ListComp elt [⟨tg,iter,ifs,0⟩] scope pos) p2) (sSet i (wLcF en C p f t tt te ownS)):=by
 subst hos
 let H0:Hp:=λ_=>none
 let s0:Shared:=y.X.s_0
 exact ztB hc nd hy hyl hsw hi ok hg ht he hs ho (ht s0 H0 0 [] []).mono (he s0 H0 0 [] []).mono hκ htp
end
def zrM (i:Nat) (ns:List Str) (w:WE):WE:=λe Q X=>match e[i]? with
 | some (some m)=>w (e.set i (some (frzO ns m))) Q X
 | _=>False
theorem zy7 {y:Y} {e:Expr} {w:WE} (i:Nat) (ns:List Str) (h:SE y e w):SE y e (zrM i ns w) where
 run:=zbb h.run λσ H Q ⟨e,P,h0,q⟩=>by
  unfold zrM at q
  split at q
  ·rename_i m em
   obtain ⟨v,ev,om⟩:=h0.take em
   have z:Ok y.X.K H σ (e.set i none) ((v,frzO ns m)::P):=⟨om.1,(Sep.frzO ns (om.2.perm yad)).perm yad.symm⟩
   have z2:=z.give ev
   rw [ybh] at z2
   exact ⟨_,P,z2,q⟩
  ·exact q.elim
 mono:=λe Q Q' X X' hq hx q=>by
  unfold zrM at *
  split at q
  ·exact h.mono _ _ _ _ _ hq hx q
  ·exact q.elim
theorem k_frzP {e:En} {Q:M->En->Prop} {X:XQ} {i:Nat} {ns:List Str} {w:WE} {m:M} (h:e[i]?=some (some m)) (q:w (e.set i (some (frzO ns m))) Q X):zrM i ns w e Q X:=by
 unfold zrM
 rw [h]
 exact q
theorem k_enD {m:M} {ds:List D} {QI:List D->En->Prop} {e:En} (h:m.d=.lst ds) (q:QI (enD ds) e):enK m QI e:=by
 unfold enK
 rw [h]
 exact q
def zy8 (K:PySem.W.Frag):List V->Hp->VK->Prop:=λvs H Q=>∃ (a:Addr) (ns:List Int),vs=[V.ref a]/\SqT K H a (ns.map V.int)/\Q (.int ns.sum) H
theorem zwe {prog:Program} {w:World} {A:Around} {E:Value->Shared->Prop} {s:Shared} {l:Addr} {its:List Value} {ns:List Int} {Q:Value->Shared->Prop} (hh:A.handled=none) (hl:s.heap.IsTuple l its.toArray) (hi:IntsAre its ns)
 (h:∀ h' tk t',(∀ b o,s.heap.get? b=some o->h'.get? b=some o)->Q (.int ns.sum t') { s with heap:=h',toks:=tk }):wpAny (model prog w) A (call (.builtin "sum") [.ref l]) Q E s:=by
 obtain ⟨xs,e⟩:=hi.allInts.items
 have hn:numsOf (intItems xs).toList=ns:=by rw [← e]; exact hi.numsOf
 rw [nums_intItems] at hn
 rw [e] at hl
 refine PySem.W.ktm_sumG hh hl λh' tk t' hk => ?_
 have:=h h' tk t' hk
 rw [preSum_eq,yb8 (by simp),hn]; exact this
theorem zy9 {X:Cx} (hc:X.calm=true):CallR X (.builtin "sum") (zy8 X.K):=by
 intro pins s σ H vs us Q I r h
 obtain ⟨a,ns,rfl,hs,q⟩:=h
 obtain ⟨its,rv,pl,_⟩:=I.tuple hs
 rw [Vals.ref1 r]
 exact zwe (I.ok.hd hc) pl rv.ints λh' tk t' hk=>⟨.int _,H,I.kept hk,⟨_,rfl⟩,q⟩
theorem zza {X:Cx} (hc:X.calm=true):CallR X (.builtin "sum") (λxs H Q=>rSum X.K xs H Q\/zy8 X.K xs H Q):=CallR.or (cr_sum hc) (zy9 hc)
def ztC:OPN:=λms q=>one ms λm=>match m.d with
 | .lst ds=>(match zhI ds with
   | some is=>q (.fz (.int is.sum))
   | none=>False)
 | .tup ds=>(match zhI ds with
   | some is=>q (.fz (.int is.sum))
   | none=>False)
 | _=>False
def zhL:OP2:=λa b q=>match a,b with
 | .fz (.str s),.fz (.int k)=>(k=0\/k=1)/\s.length<=sizeLine/\q (.fz (.str (if k=1 then s else "")))
 | _,_=>False
def ztD:R2:=λx y H Q=>∃ s k,x=.str s/\y=.int k/\(k=0\/k=1)/\s.length<=sizeLine/\Q (.str (if k=1 then s else "")) H
theorem ztE {X:Cx}:OpR X (binaryOp .Mult) ztD:=by
 intro pins s σ H x y v u Q I rx ry h
 obtain ⟨z,k,rfl,rfl,hk,hz,q⟩:=h
 obtain ⟨t,rfl⟩:=rx
 obtain ⟨t',rfl⟩:=ry
 refine SB.mul ⟨?_,λh1 h2 => ?_,λh1 h2 => ?_⟩ λt' tk => ?_
 ·rcases hk with rfl | rfl<;>decide
 ·rcases hk with rfl | rfl
  ·exact absurd (by decide) h1
  ·exact absurd h2 (by simp)
 ·rcases hk with rfl | rfl
  ·exact absurd (by decide) h1
  ·exact absurd h2 (by simp)
 ·rcases hk with rfl | rfl
  ·exact ⟨.str _,H,I.tok _,⟨_,rfl⟩,q⟩
  ·exact ⟨.str _,H,I.tok _,⟨_,rfl⟩,q⟩
section
variable {K:PySem.W.Frag}
theorem zwf:SndN K (λxs H Q=>rSum K xs H Q\/zy8 K xs H Q) ztC where
 run:=λG H xs ms Q ex ow q=>by
  obtain ⟨v,m,rfl,rfl,⟨F,w⟩,q⟩:=zcx ow q
  split at q
  ·rename_i ds e
   split at q
   ·rename_i is ei
    obtain ⟨a,vs,rfl,h1,r1⟩:=zbA ex w e
    have ev:=zgy r1 ei
    subst ev
    exact .inl ⟨a,is,rfl,.of h1,q _ _ (.same (.int _))⟩
   ·exact q.elim
  ·rename_i ds e
   split at q
   ·rename_i is ei
    obtain ⟨a,vs,rfl,h1,r1⟩:=zfx ex w e
    have ev:=zgy r1 ei
    subst ev
    exact .inr ⟨a,is,rfl,h1.sqT,q _ _ (.same (.int _))⟩
   ·exact q.elim
  ·exact q.elim
 mono:=λa q q' h k=>zbv (λm k=>by
  split at k
  ·split at k
   ·exact h _ k
   ·exact k.elim
  ·split at k
   ·exact h _ k
   ·exact k.elim
  ·exact k.elim) k
theorem zrN:Snd2 K ztD zhL where
 run:=λG H x y mx my F F' Q ex w w' q=>by
  unfold zhL at q
  split at q
  ·cases w with
   | fz w =>
     cases w
     cases w' with
     | fz w' =>
       cases w'
       exact ⟨_,_,rfl,rfl,q.1,q.2.1,q.2.2 _ _ (.same (.str _))⟩
  ·exact q.elim
 mono:=λa b q q' h k=>by
  unfold zhL at *
  split at k
  ·exact ⟨k.1,k.2.1,h _ k.2.2⟩
  ·exact k.elim
end
def ztF (a:D):R D:=match a with
 | .lst ds=>(ofO (zhI ds)).bind λis=>.ok (.int is.sum)
 | .tup ds=>(ofO (zhI ds)).bind λis=>.ok (.int is.sum)
 | _=>.no
def zkd (a b:D):R D:=match a,b with
 | .str s,.int k=>need ((decide (k=0)||decide (k=1))&&decide (s.length<=sizeLine)) (.ok (.str (if k=1 then s else "")))
 | _,_=>.no
section
variable {β:Type} {P:β->Prop} {XP:Xn->Prop} {ma mb:M} {k:M->Prop}
theorem k_sum2 {f:D->R β} (h:((ztF ma.d).bind f).post P XP) (q:∀ v,(f v).post P XP->k (.fz v)):ztC [ma] k:=by
 unfold ztF at h
 show (match ma.d with
  | .lst ds=>(match zhI ds with
    | some is=>k (.fz (.int is.sum))
    | none=>False)
  | .tup ds=>(match zhI ds with
    | some is=>k (.fz (.int is.sum))
    | none=>False)
  | _=>False)
 split at h
 ·rename_i e
  try rw [e]
  try dsimp only
  obtain ⟨bs,e,h⟩:=zbf h
  try rw [e]
  exact q _ h
 ·rename_i e
  try rw [e]
  try dsimp only
  obtain ⟨bs,e,h⟩:=zbf h
  try rw [e]
  exact q _ h
 ·exact h.elim
theorem zwg {f:D->R β} (h:((zkd ma.d mb.d).bind f).post P XP) (q:∀ v,(f v).post P XP->k (.fz v)):zhL ma mb k:=by
 unfold zkd at h
 split at h
 ·rename_i s i e1 e2
  obtain ⟨c,h⟩:=za7 h
  rw [yas,ybm,yaq,yaq,yaq] at c
  rw [zyx e1,zfY e2]
  exact ⟨c.1,c.2,q _ h⟩
 ·exact h.elim
end
@[simp] theorem fz_d (d:D):(M.fz d).d=d:=ybi rfl rfl
@[simp] theorem lst_d (d:List D):(M.lst d).d=.lst d:=ybi rfl rfl
theorem zf0:sizeLine=16777216:=sizeLine_eq
theorem zaz {α:Type} {c:Bool} {r:R α} (h:c=true):need c r=r:=by rw [h]; rfl
theorem zdT {a b:Nat} (h:a<=b):Nat.ble a b=true:=Nat.ble_eq_true_of_le h
@[simp] theorem zd9 (i j:Int):nAdd (.int i) (.int j)=.ok (.fz (.int (i+j))):=ybi rfl rfl
@[simp] theorem zmL (i j:Int):nSub (.int i) (.int j)=.ok (.int (i-j)):=ybi rfl rfl
@[simp] theorem znT (i:Int):nNeg (.int i)=.ok (.int (-i)):=ybi rfl rfl
theorem zke {i j:Int} (h:0<j):nMod (.int i) (.int j)=.ok (.int (i % j)):=zaz (yaf h)
theorem zzb {i j:Int} (h:0<j) (h':j<1073741824):nDiv (.int i) (.int j)=.ok (.int (i / j)):=zaz (yaf (⟨h,h'⟩:CDiv i j))
theorem znU {i j:Int} (h:-(2 ^ 64)<j) (h':j<2 ^ 64):nMul (.int i) (.int j)=.ok (.fz (.int (i*j))):=zaz (yaf (.inr ⟨h,h'⟩:CMul i j))
theorem ztG {i j:Int} (h:-(2 ^ 64)<i) (h':i<2 ^ 64):nMul (.int i) (.int j)=.ok (.fz (.int (i*j))):=zaz (yaf (.inl ⟨h,h'⟩:CMul i j))
theorem zzc {i j:Int} (h:CPow i j):nPow (.int i) (.int j)=.ok (.int (i ^ j.toNat)):=zaz (yaf h)
@[simp] theorem zlC (i:Int):nInt (.int i)=.ok i:=ybi rfl rfl
theorem zpg {s t:Str} (h:s.length+t.length<=sizeLine):nAdd (.str s) (.str t)=.ok (.fz (.str (s++t))):=zaz (zdT h)
theorem zzd {s t:List D} (h:s.length+t.length<=sizeLine):nAdd (.tup s) (.tup t)=.ok (.fz (.tup (s++t))):=zaz (zdT h)
theorem nApp_of {ds:List D} {d:D} (h:ds.length<16777216):nApp ds d=.ok (ds++[d]):=zaz (yaf h)
theorem zmM {ds es:List D} (h:ds.length+es.length<=16777216):nExt ds (.lst es)=.ok (ds++es):=zaz (yaf h)
@[simp] theorem zdg (ds:List D):nLen (.tup ds)=.ok (.int ds.length):=ybi rfl rfl
@[simp] theorem zbw (ds:List D):nLen (.lst ds)=.ok (.int ds.length):=ybi rfl rfl
@[simp] theorem zqw (ds:List Int):nLen (.scr ds)=.ok (.int ds.length):=ybi rfl rfl
theorem zwh {s:Str} (h:s.length<=sizeLine):nLen (.str s)=.ok (.int s.length):=zaz (zdT h)
@[simp] theorem zcY (ds:List D):zcX (.tup ds)=.ok ds:=ybi rfl rfl
@[simp] theorem zfl (ds:List D):zcX (.lst ds)=.ok ds:=ybi rfl rfl
@[simp] theorem zrO (ds:List D):zcy (.tup ds)=.ok (.tup ds):=ybi rfl rfl
@[simp] theorem zcZ (ds:List D):zcy (.lst ds)=.ok (.tup ds):=ybi rfl rfl
@[simp] theorem znV (ds:List D):zro (.lst ds)=.ok ds:=ybi rfl rfl
@[simp] theorem zze (ds:List D) (lo hi:Option Int):nSl (.tup ds) lo hi=.ok (.fz (.tup (cutD ds lo hi))):=ybi rfl rfl
@[simp] theorem ztH (ds:List D) (lo hi:Option Int):nSl (.lst ds) lo hi=.ok (.lst (cutD ds lo hi)):=ybi rfl rfl
theorem zmN {s:Str} {lo hi:Option Int} (h:s.length<=sizeLine):nSl (.str s) lo hi=.ok (.fz (.str (cutS s lo hi))):=zaz (zdT h)
@[simp] theorem zcr (a b:D):nUn2 (.tup [a,b])=.ok (a,b):=ybi rfl rfl
@[simp] theorem zwi (a b c:D):nUn3 (.tup [a,b,c])=.ok (a,b,c):=ybi rfl rfl
theorem zkf {ds:List D} {i:Int} {d:D} (h:atI ds i=some d):nIx (.tup ds) (.int i)=.ok d:=by
 show (ofO (some i)).bind (λi=>ofO (atI ds i))=_
 show ofO (atI ds i)=_
 rw [h]
 rfl
theorem zkg {ds:List D} {i:Int} {d:D} (h:atI ds i=some d):nIx (.lst ds) (.int i)=.ok d:=by
 show ofO (atI ds i)=_
 rw [h]
 rfl
theorem zzf {ds:List Int} {i:Int} {d:Int} (h:atI ds i=some d):nIx (.scr ds) (.int i)=.ok (.int d):=by
 show (ofO (atI ds i)).bind _=_
 rw [h]
 rfl
theorem zmO {s:Str} {i:Int} {c:Nat} (h:atI s.cps.toList i=some c) (hl:s.length<=sizeLine):nIx (.str s) (.int i)=.ok (sgn c):=by
 show (ofO (atI s.cps.toList i)).bind _=_
 rw [h]
 exact zaz (zdT hl)
theorem nIx_dK {kvs:List (Key×D)} {k:D} {y:Key} {d:D} (h:keyK k=some y) (h':getK kvs y=some d):nIx (.dK kvs) k=.ok d:=by
 show (ofO (keyK k)).bind _=_
 rw [h]
 show ofO (getK kvs y)=_
 rw [h']
 rfl
theorem nIx_dT {kvs:List (List Key×D)} {k:D} {y:List Key} {d:D} (h:keyT k=some y) (h':getK kvs y=some d):nIx (.dT kvs) k=.ok d:=by
 show (ofO (keyT k)).bind _=_
 rw [h]
 show ofO (getK kvs y)=_
 rw [h']
 rfl
theorem atI_2 {α:Type} (a b c:α) (l:List α):atI (a::b::c::l) 2=some c:=atI_nat (j:=2) rfl
theorem atI_3 {α:Type} (a b c d:α) (l:List α):atI (a::b::c::d::l) 3=some d:=atI_nat (j:=3) rfl
@[simp] theorem zgT (a:D) (l:List D):nIx (.tup (a::l)) (.int 0)=.ok a:=zkf (atI_0 _ _)
@[simp] theorem zgU (a b:D) (l:List D):nIx (.tup (a::b::l)) (.int 1)=.ok b:=zkf (atI_1 _ _ _)
@[simp] theorem nIx_t2 (a b c:D) (l:List D):nIx (.tup (a::b::c::l)) (.int 2)=.ok c:=zkf (atI_2 _ _ _ _)
@[simp] theorem nIx_t3 (a b c d:D) (l:List D):nIx (.tup (a::b::c::d::l)) (.int 3)=.ok d:=zkf (atI_3 _ _ _ _ _)
@[simp] theorem nIx_l0 (a:D) (l:List D):nIx (.lst (a::l)) (.int 0)=.ok a:=zkg (atI_0 _ _)
@[simp] theorem nStL_0 (a d:D) (l:List D):nStL (a::l) (.int 0) d=.ok (d::l):=by
  have e:ixN (a::l).length 0=some 0:=by
   unfold ixN
   simp
  show (ofO (ixN (a::l).length 0)).bind _=_
  rw [e]
  rfl
@[simp] theorem zlD (neg:Bool) (i j:Int):nEq neg (.int i) (.int j)=.ok (if neg=true then !decide (i=j) else decide (i=j)):=by
  show need true (R.ok (if neg=true then !eqD (.int i) (.int j) else eqD (.int i) (.int j)))=_
  rw [zyv]
  rfl
@[simp] theorem zxs (neg:Bool) (i j:Str):nEq neg (.str i) (.str j)=.ok (if neg=true then !decide (i=j) else decide (i=j)):=by
  show need true (R.ok (if neg=true then !eqD (.str i) (.str j) else eqD (.str i) (.str j)))=_
  rw [zyu]
  rfl
theorem znW (i j:Int):nEq false (.int i) (.int j)=.ok (decide (i=j)):=zlD false i j
theorem zwj (i j:Int):nEq true (.int i) (.int j)=.ok (!decide (i=j)):=zlD true i j
theorem zwk (i j:Str):nEq false (.str i) (.str j)=.ok (decide (i=j)):=zxs false i j
theorem nN_ss (i j:Str):nEq true (.str i) (.str j)=.ok (!decide (i=j)):=zxs true i j
theorem nE_of {a b:D} (h:eqOk a b=true):nEq false a b=.ok (eqD a b):=zaz h
theorem nN_of {a b:D} (h:eqOk a b=true):nEq true a b=.ok (!eqD a b):=zaz h
theorem ztI {neg:Bool} {a b:D} (h:eqOk a b=true):nEq neg a b=.ok (if neg=true then !eqD a b else eqD a b):=zaz h
@[simp] theorem zf1 (o:Od) (i j:Int):nOrd o (.int i) (.int j)=.ok (o.int i j):=ybi rfl rfl
@[simp] theorem zwl (i j:Int):Od.lt.int i j=decide (i<j):=ybi rfl rfl
@[simp] theorem od_le (i j:Int):Od.le.int i j=decide (i<=j):=ybi rfl rfl
@[simp] theorem od_gt (i j:Int):Od.gt.int i j=decide (j<i):=ybi rfl rfl
@[simp] theorem od_ge (i j:Int):Od.ge.int i j=decide (j<=i):=ybi rfl rfl
@[simp] theorem zzg (b:Bool):nTru (.bl b)=.ok b:=ybi rfl rfl
theorem zzh {T t:String} {d:D} (h:tyNm d=some t) (hT:zsL.contains T=true):nIsi T d=.ok (isiB t T):=by
 unfold nIsi
 rw [h]
 exact zaz hT
def isTup:D->Bool
 | .tup _=>true
 | _=>false
def isBl:D->Bool
 | .bl _=>true
 | _=>false
def zxt:D->Bool
 | .int _=>true
 | .bl _=>true
 | _=>false
section
variable {n:Nat} {d:D}
theorem ztJ {T:String} {f:D->Bool} (hT:zsL.contains T=true) (hf:∀ d t,tyNm d=some t->isiB t T=f d) (h:Sm n d):nIsi T d=.ok (f d):=by
 obtain ⟨t,e⟩:=h.ty
 rw [zzh e hT,hf d t e]
theorem ztK (h:Sm n d):nIsi "tuple" d=.ok (isTup d):=ztJ (by decide +kernel) (λd t e=>by cases d<;>cases e<;>simp [isiB,isTup]) h
theorem zwm (h:Sm n d):nIsi "bool" d=.ok (isBl d):=ztJ (by decide +kernel) (λd t e=>by cases d<;>cases e<;>simp [isiB,isBl]) h
theorem zzi (h:Sm n d):nIsi "int" d=.ok (zxt d):=ztJ (by decide +kernel) (λd t e=>by cases d<;>cases e<;>simp [isiB,zxt]) h
end
theorem rngB_of {i:Int} (h:0<=i) (h':i<1000000000):rngB i:=⟨by omega,by omega⟩
theorem zk7 {i:Int} (h:0<=i) (h':i<1000000000):nR1 (.int i)=.ok (rngD 0 i.toNat):=by
 have e:rngB i:=⟨by omega,by omega⟩
 unfold nR1
 simp only [intD,ofO,R.bind]
 exact zaz (yaf e)
theorem zwn {n:Nat} (h:(n:Int)<1000000000):nR1 (.int n)=.ok (rngD 0 n):=by
 rw [zk7 (yco n) h,ybW]
theorem ztL (n:Nat):rngD 0 n=(List.range n).map λ(k:Nat)=>D.int k:=by
 unfold rngD
 refine ybP λk _ => ?_
 rw [ybO]
theorem zdN (i:Int) (n:Nat):(rngD i n).length=n:=by
 unfold rngD
 rw [yac,yau]
theorem zqx {i:Int} {n:Nat} {d:D} (h:d∈rngD i n):∃ k:Nat,k<n/\d=.int (i+k):=by
 unfold rngD at h
 obtain ⟨k,hk,rfl⟩:=yan.mp h
 exact ⟨k,yaA.mp hk,rfl⟩
theorem zin {i:Int} {n k:Nat} {d:D} (h:(rngD i n)[k]?=some d):k<n/\d=.int (i+k):=by
 unfold rngD at h
 rw [yaI] at h
 by_cases hk:k<n
 ·rw [yaU hk] at h
  cases h
  exact ⟨hk,rfl⟩
 ·rw [yar (by rw [yau]; omega)] at h
  cases h
theorem zqy {f:D->R D} {g:D->D}:∀ {ds:List D},(∀ d∈ds,f d=.ok (g d))->lcM' f ds=.ok (ds.map g)
 | [],_=>rfl
 | d::ds,h=>by
   unfold lcM'
   rw [h d yaa,zqy λd hd=>h d (yab _ hd)]
   rfl
theorem zmP {f:D->R D} {g:D->D} {ds:List D} (hl:ds.length<=sizeLine) (h:∀ d∈ds,f d=.ok (g d)):lcM f ds=.ok (ds.map g):=by
 unfold lcM
 rw [zaz (zdT hl),zqy h]
theorem zqz {σ:Type} {f:D->σ->R (D×σ)} (I:σ->Prop) (A:D->Prop):∀ {ds:List D} {s:σ},I s->(∀ d∈ds,∀ s,I s->∃ x s',f d s=.ok (x,s')/\A x/\I s')->∃ xs s',lcS' f ds s=.ok (xs,s')/\xs.length=ds.length/\(∀ x∈xs,A x)/\I s'
 | [],s,hi,_=>⟨[],s,rfl,rfl,λ_ z=>absurd z ybb,hi⟩
 | d::ds,s,hi,h=>by
   obtain ⟨x,s1,e,ha,hi1⟩:=h d yaa s hi
   obtain ⟨xs,s2,e2,hl,hA,hi2⟩:=zqz I A hi1 λd hd=>h d (yab _ hd)
   refine ⟨x::xs,s2,?_,ya8 (· + 1) hl,λy hy => ?_,hi2⟩
   ·unfold lcS'
    rw [e]
    show (lcS' f ds s1).bind _=_
    rw [e2]
    rfl
   ·rcases yap.mp hy with rfl | hy
    ·exact ha
    ·exact hA y hy
theorem ztM {σ:Type} {f:D->σ->R (D×σ)} (I:σ->Prop) (A:D->Prop) {ds:List D} {s:σ} (hl:ds.length<=sizeLine) (hi:I s) (h:∀ d∈ds,∀ s,I s->∃ x s',f d s=.ok (x,s')/\A x/\I s'):∃ xs s',lcS f ds s=.ok (xs,s')/\xs.length=ds.length/\(∀ x∈xs,A x)/\I s':=by
 obtain ⟨xs,s',e,h⟩:=zqz I A hi h
 refine ⟨xs,s',?_,h⟩
 unfold lcS
 rw [zaz (zdT hl),e]
theorem zcs {σ:Type} {body:D->σ->R σ} (I:Nat->σ->Prop):∀ {ds:List D} {s:σ} (k:Nat),I k s->(∀ j d s,ds[j]?=some d->I (k+j) s->∃ s',body d s=.ok s'/\I (k+j+1) s')->∃ s',forS body ds s=.ok s'/\I (k+ds.length) s'
 | [],s,k,hi,_=>⟨s,rfl,hi⟩
 | d::ds,s,k,hi,h=>by
   obtain ⟨s1,e,h1⟩:=h 0 d s rfl hi
   obtain ⟨s2,e2,h2⟩:=zcs I (ds:=ds) (s:=s1) (k+1) h1 λj d s hd hs=>by
    have:=h (j+1) d s (by simpa using hd) (by rw [show k+(j+1)=k+1+j by omega]; exact hs)
    rw [show k+(j+1)+1=k+1+j+1 by omega] at this
    exact this
   refine ⟨s2,?_,?_⟩
   ·unfold forS
    rw [e]
    exact e2
   ·rw [yaB,show k+(ds.length+1)=k+1+ds.length by omega]
    exact h2
end VW
namespace VW
open PySem PySem.Spec PyProof.Rows L2
def zbN:List Nat:=("abcdefghijklmnopqrstuvwxyz" : Str).cps.toList
def zcg (s:Str):Bool:=decide (1<=s.length)&&decide (s.length<=8)&&s.cps.toList.all λc=>decide (c∈zbN)
def ztN:D->Bool
 | .str s=>zcg s
 | _=>false
def isSide:D->Bool
 | .str s=>decide (s = "+")||decide (s = "-")
 | _=>false
def zxu:D->Bool
 | .tup [a,b]=>ztN a&&isSide b
 | _=>false
def ztO:D->Bool
 | .tup ps=>decide (1<=ps.length)&&decide (ps.length<=4)&&ps.all zxu
 | _=>false
def zmQ:D->Bool
 | .tup [a,b]=>ztN a&&ztO b
 | _=>false
def zav:D->Str
 | .tup (.str n::_)=>n
 | _ => ""
def zjk:Str->List D->Bool
 | _,[]=>true
 | a,r::rs=>zmQ r&&ltS a (zav r)&&zjk (zav r) rs
theorem zqA {r:D} (h:zmQ r=true):∃ n ps,r=.tup [.str n,.tup ps]/\zcg n=true:=by
 unfold zmQ at h
 split at h
 ·rename_i a b
  rw [yas] at h
  obtain ⟨h1,h2⟩:=h
  unfold ztN at h1
  split at h1
  ·unfold ztO at h2
   split at h2
   ·exact ⟨_,_,rfl,h1⟩
   ·cases h2
  ·cases h1
 ·cases h
def zjl (s:Str):Str:=if s = "+" then "-" else "+"
theorem zrP (cs:List Nat):(Txt.join "" (cs.map λc=>(⟨#[c]⟩:Str))).cps.toList=cs:=by
 have glue:∀ (xs:List Str),(Txt.join "" xs).cps.toList=(xs.map λx=>x.cps.toList).flatten:=by
  intro xs
  have e1:Txt.join "" xs=Str.join "" xs:=StrLaws.glued_eq_join "" xs
  rw [e1]
  have e2:=TL.tl_join "" xs
  have e3:∀ l:List (List Nat),TL.joinL [] l=l.flatten:=by
   intro l
   induction l with
   | nil=>rfl
   | cons a l ih =>
     cases l with
     | nil=>simp [TL.joinL]
     | cons b l =>
       show a++([]++TL.joinL [] (b::l))=_
       rw [ih]
       rfl
  exact e2.trans (e3 _)
 rw [glue,yaY]
 induction cs with
 | nil=>rfl
 | cons c cs ih =>
   rw [yaH,ybL,ih]
   rfl
theorem ztP (cs:List Nat):((cs.map λc=>(⟨#[c]⟩:Str)).map (·.length)).sum=cs.length:=by
 induction cs with
 | nil=>rfl
 | cons c cs ih =>
   rw [yaH,yaH,List.sum_cons,ih,yaB]
   show 1+cs.length=_
   omega
theorem znX {w:Str} {a:Int} (h:0<=a):(cutS w none (some a)).cps.toList=w.cps.toList.take a.toNat:=by
 unfold cutS HT.sIx
 have hn:w.length=w.cps.toList.length:=by rw [ya3]; rfl
 rw [ycg]
 dsimp only
 rw [yaz (by omega),hn,List.drop_zero,Nat.sub_zero,List.take_eq_take_iff]
 omega
theorem zqB {α:Type} {l:List α} (h:l.Nodup) {i j:Nat} (hi:i<l.length) (hj:j<l.length) (e:l[i]=l[j]):i=j:=by
 have p:=yct.mp h
 rcases Nat.lt_trichotomy i j with z | z | z
 ·exact absurd e (p i j hi hj z)
 ·exact z
 ·exact absurd e.symm (p j i hj hi z)
theorem zwo {w:Str} {a:Int} (h:0<=a):(cutS w (some a) none).cps.toList=w.cps.toList.drop a.toNat:=by
 unfold cutS HT.sIx
 have hn:w.length=w.cps.toList.length:=by rw [ya3]; rfl
 rw [ycg]
 dsimp only
 rw [yaz (by omega),hn]
 rcases Nat.le_total a.toNat w.cps.toList.length with l | l
 ·rw [ycN l,yb8 (by rw [ycf]; exact yaj _)]
 ·rw [Nat.min_eq_right l,List.drop_of_length_le (yaj _),List.drop_of_length_le l,List.take_nil]
theorem zrQ:∀ {rows:List D},rows.all zmQ=true->∃ ns:List Str,ns.length=rows.length/\rows.map zav=ns/\(∀ n∈ns,zcg n=true)/\∀ r∈rows,∃ ps,r=.tup [.str (zav r),.tup ps]:=λ{rows} h=>by
 refine ⟨_,yac _,rfl,λn hn => ?_,λr hr => ?_⟩
 ·obtain ⟨r,hr,rfl⟩:=yan.mp hn
  obtain ⟨n,ps,rfl,e⟩:=zqA (yav.mp h r hr)
  exact e
 ·obtain ⟨n,ps,rfl,e⟩:=zqA (yav.mp h r hr)
  exact ⟨ps,rfl⟩
theorem znY:∀ (a:Str) (rows:List D),rows.all zmQ=true->(zjk a rows=true↔(a::rows.map zav).Pairwise λa b=>ltS a b=true)
 | a,[],_=>by simp [zjk]
 | a,r::rows,h=>by
   rw [ycD,yas] at h
   unfold zjk
   rw [h.1,ybQ,yas,znY (zav r) rows h.2,yaH]
   constructor
   ·rintro ⟨h1,h2⟩
    refine yb6.mpr ⟨λx hx => ?_,h2⟩
    rcases yap.mp hx with rfl | hx
    ·exact h1
    ·exact znB h1 ((yb6.mp h2).1 x hx)
   ·intro h
    obtain ⟨h1,h2⟩:=yb6.mp h
    exact ⟨h1 _ yaa,h2⟩
theorem znZ:∀ (a:Str) (rows:List D),zjk a rows=true->rows.all zmQ=true
 | _,[],_=>rfl
 | a,r::rows,h=>by
   unfold zjk at h
   rw [yas,yas] at h
   rw [ycD,h.1.1,znZ _ rows h.2]
   rfl
theorem ztQ {n:Str} (h:zcg n=true):ltS "" n=true:=by
 unfold zcg at h
 rw [yas,yas,yaq] at h
 have h1:=h.1.1
 unfold ltS
 have e:("" : Str).cps.toList=[]:=by decide
 rw [e]
 have h2:1<=n.cps.toList.length:=by rw [ya3]; exact h1
 cases q:n.cps.toList with
 | nil=>rw [q] at h2; exact absurd h2 (by decide)
 | cons c cs=>exact yaf (List.nil_lt_cons _ _)
theorem ziU {rows:List D} (h:rows.all zmQ=true):zjk "" rows=(decide ((rows.map zav).mergeSort leS=rows.map zav)&&decide ((dedK ((rows.map zav).map Sum.inr)).length=(rows.map zav).length)):=by
 obtain ⟨ns,_,e,hn,_⟩:=zrQ h
 rw [ybT,znY "" rows h,yas,yaq,yaq,e,zqg]
 have l:((ns.map (Sum.inr:Str->Key))).length=ns.length:=yac _
 rw [← l,zfX,zfj,← zrl,yb6]
 exact ⟨λh=>h.2,λh=>⟨λn z=>ztQ (hn n z),h⟩⟩
theorem ztR (ns:List Str):D.pys (ns.map D.str)=some (ns.map PyData.str):=by
 induction ns with
 | nil=>rfl
 | cons n ns ih =>
   rw [yaH]
   unfold D.pys
   rw [ih]
   rfl
theorem zzj {n:Str} (h:zcg n=true):PyData.strOk n=true:=by
 unfold zcg at h
 rw [yas] at h
 show n.cps.all (· < 0x110000)=true
 rw [← Array.all_toList,yav]
 intro c hc
 have h1:=yao (yav.mp h.2 c hc)
 exact yaf (yao (yav.mp (show zbN.all (λc=>decide (c<0x110000))=true by decide +kernel) c h1))
def zcC (p:D):Prop:=∃ a s:Str,p=.tup [.str a,.str s]/\zcg a=true/\(s = "+" \/ s = "-")
def GRow (r:D):Prop:=∃ (n:Str) (ps:List D),r=.tup [.str n,.tup ps]/\zcg n=true/\1<=ps.length/\ps.length<=4/\∀ p∈ps,zcC p
def zn0 (q:PyData):Prop:=∃ a s:Str,q=.tuple [.str a,.str s]
theorem zqC:∀ {ps:List D},(∀ p∈ps,zcC p)->∃ qs,D.pys ps=some qs/\(∀ q∈qs,zn0 q)/\PyData.depthAll qs<=1
 | [],_=>⟨[],rfl,λ_ z=>absurd z ybb,ybd _⟩
 | p::ps,h=>by
   obtain ⟨qs,e,hq,hd⟩:=zqC (ps:=ps) λp hp=>h p (yab _ hp)
   obtain ⟨a,s,rfl,_⟩:=h p yaa
   refine ⟨.tuple [.str a,.str s]::qs,?_,λq hq' => ?_,?_⟩
   ·unfold D.pys
    rw [e]
    rfl
   ·rcases yap.mp hq' with rfl | hq'
    ·exact ⟨a,s,rfl⟩
    ·exact hq q hq'
   ·unfold PyData.depthAll
    exact Nat.max_le.mpr ⟨yaj _,hd⟩
theorem zg9:∀ {ps qs:List PyData},(∀ q∈ps,zn0 q)->(∀ q∈qs,zn0 q)->PySem.W.alikeAll ps qs=true
 | [],_,_,_=>by cases ‹List PyData›<;>rfl
 | _::_,[],_,_=>rfl
 | p::ps,q::qs,h,h'=>by
   obtain ⟨a,s,rfl⟩:=h p yaa
   obtain ⟨b,t,rfl⟩:=h' q yaa
   unfold PySem.W.alikeAll
   rw [zg9 (λq hq=>h q (yab _ hq)) λq hq=>h' q (yab _ hq),Bool.and_true]
   rfl
def zwp (q:PyData):Prop:=∃ (n:Str) (qs:List PyData),q=.tuple [.str n,.tuple qs]/\(∀ q∈qs,zn0 q)/\PyData.depthAll qs<=1
theorem ztS {r:D} (h:GRow r):∃ q,r.py=some q/\∃ qs,q=.tuple [.str (zav r),.tuple qs]/\(∀ q∈qs,zn0 q)/\PyData.depthAll qs<=1:=by
 obtain ⟨n,ps,rfl,_,_,_,hp⟩:=h
 obtain ⟨qs,e,hq,hd⟩:=zqC hp
 refine ⟨_,?_,qs,rfl,hq,hd⟩
 simp only [D.py,D.pys,e,ycL]
 rfl
theorem ztT:∀ {R:List D},(∀ r∈R,GRow r)->∃ qs,D.pys R=some qs/\∀ q∈qs,zwp q
 | [],_=>⟨[],rfl,λ_ z=>absurd z ybb⟩
 | r::R,h=>by
   obtain ⟨qs,e,hq⟩:=ztT (R:=R) λp hp=>h p (yab _ hp)
   obtain ⟨q,e1,ps,e2,hp,hd⟩:=ztS (h r yaa)
   refine ⟨q::qs,?_,λx hx => ?_⟩
   ·unfold D.pys
    rw [e,e1]
   ·rcases yap.mp hx with rfl | hx
    ·exact ⟨_,ps,e2,hp,hd⟩
    ·exact hq x hx
theorem zrR {p q:PyData} (h:zwp p) (h':zwp q):PySem.W.alike p q=true:=by
 obtain ⟨n,ps,rfl,hp,_⟩:=h
 obtain ⟨k,qs,rfl,hq,_⟩:=h'
 show (true&&(PySem.W.alikeAll ps qs&&true))=true
 rw [zg9 hp hq]
 rfl
theorem zzk {qs:List PyData} (h:∀ q∈qs,zwp q):zfi qs=true:=by
 unfold zfi
 rw [yas,yas,ybm,yav,yav]
 refine ⟨⟨λp hp => ?_,λp hp => ?_⟩,.inl ?_⟩
 ·rw [yav]
  exact λq hq=>zrR (h p hp) (h q hq)
 ·obtain ⟨n,ps,rfl,_,hd⟩:=h p hp
  refine yaf ?_
  show max 0 (max (PyData.depthAll ps+1) 0)+1<=60
  omega
 ·rw [yav]
  intro q hq
  obtain ⟨n,ps,rfl,_⟩:=h q hq
  rfl
theorem zwq {r r':D} (h:GRow r) (h':GRow r') (ne:zav r≠zav r'):ltD r r'=ltS (zav r) (zav r'):=by
 obtain ⟨q,e,qs,rfl,hq,_⟩:=ztS h
 obtain ⟨q',e',qs',rfl,hq',_⟩:=ztS h'
 unfold ltD
 rw [e,e']
 show PySem.W.dataLt _ _=_
 have al:PySem.W.alike (PyData.tuple qs) (.tuple qs')=true:=zg9 hq hq'
 rw [PySem.W.dataLt_pair rfl al]
 have ev:¬ PyData.eqv (.str (zav r)) (.str (zav r'))=true:=λz=>ne (by
  have z:(zav r==zav r')=true:=z
  exact eq_of_beq z)
 rw [yaz ev]
 exact PySem.W.dataLt_str _ _
theorem zwr {r:D}:ltD r r=false:=by
 unfold ltD
 cases r.py with
 | none=>rfl
 | some p=>exact PySem.W.dataLt_self p
theorem ztU {R:List D} (h:∀ r∈R,GRow r) (nd:(R.map zav).Nodup):(zfh R).map zav=(R.map zav).mergeSort leS:=by
 unfold zfh
 refine ybS λa ha b hb => ?_
 unfold leD
 by_cases e:zav b=zav a
 ·have eab:a=b:=by
   obtain ⟨i,hi,rfl⟩:=List.getElem_of_mem ha
   obtain ⟨j,hj,rfl⟩:=List.getElem_of_mem hb
   have:i=j:=zqB nd (by rw [yac]; exact hi) (by rw [yac]; exact hj) (by rw [List.getElem_map,List.getElem_map]; exact e.symm)
   subst this
   rfl
  subst eab
  rw [zwr,zmn,zo6]
 ·rw [zwq (h b hb) (h a ha) e,zmn]
theorem zws {r:D} (h:GRow r):zmQ r=true:=by
 obtain ⟨n,ps,rfl,hn,l1,l4,hp⟩:=h
 show (zcg n&&(decide (1<=ps.length)&&decide (ps.length<=4)&&ps.all zxu))=true
 rw [hn,yaf l1,yaf l4,ybQ,ybQ,ybQ,yav]
 intro p hm
 obtain ⟨a,s,rfl,ha,hs⟩:=hp p hm
 show (zcg a&&(decide (s = "+")||decide (s = "-")))=true
 rw [ha]
 rcases hs with rfl | rfl<;>decide +kernel
theorem zrS {R:List D} (h:∀ r∈R,GRow r) (nd:(R.map zav).Nodup):zjk "" (zfh R)=true:=by
 have mem:∀ r∈zfh R,GRow r:=λr hr=>h r ((ybY R leD).mem_iff.mp hr)
 have all:(zfh R).all zmQ=true:=yav.mpr λr hr=>zws (mem r hr)
 rw [ziU all,ztU h nd,yas,yaq,yaq]
 have p:=ybY (R.map zav) leS
 refine ⟨zqg.mpr (ycE znz znA _),?_⟩
 have l:(((R.map zav).mergeSort leS).map (Sum.inr:Str->Key)).length=((R.map zav).mergeSort leS).length:=yac _
 rw [← l,zfX,zfj]
 exact p.nodup_iff.mpr nd
theorem sm_two {n:Nat} {a b:D} (ha:Sm n a) (hb:Sm n b):Sm (n+1) (.tup [a,b]):=⟨by simp,λd hd=>by
 simp at hd
 rcases hd with rfl | rfl
 ·exact ha
 ·exact hb⟩
theorem sm_one {n:Nat} {a:D} (ha:Sm n a):Sm (n+1) (.tup [a]):=⟨by simp,λd hd=>by
 simp at hd
 subst hd
 exact ha⟩
theorem zkh {n:Nat} {ds:List D} (hl:ds.length<=1000) (h:∀ d∈ds,Sm n d):Sm (n+1) (.tup ds):=⟨hl,h⟩
theorem zio {n:Str} (h:zcg n=true):Sm 0 (.str n):=by
 refine ⟨?_,zzj h⟩
 unfold zcg at h
 rw [yas,yas,yaq,yaq] at h
 have:=h.1.2
 omega
theorem grow_sm {r:D} (h:GRow r):Sm 3 r:=by
 obtain ⟨n,ps,rfl,hn,_,l4,hp⟩:=h
 refine sm_two ((zio hn).mono (by decide)) (zkh (by omega) λp hm => ?_)
 obtain ⟨a,s,rfl,ha,hs⟩:=hp p hm
 refine sm_two (zio ha) ?_
 rcases hs with rfl | rfl
 ·exact Sm.of (by decide +kernel)
 ·exact Sm.of (by decide +kernel)
def Pair (d:D):Prop:=∃ a b:Str,d=.tup [.str a,.str b]/\Sm 0 (.str a)/\Sm 0 (.str b)
theorem zzl {p:D} (h:Pair p):Sm 1 p:=by
 obtain ⟨a,b,rfl,ha,hb⟩:=h
 exact sm_two ha hb
theorem ztV {ds:List D} {lo hi:Option Int} {d:D} (h:d∈cutD ds lo hi):d∈ds:=List.mem_of_mem_drop (ybJ h)
theorem ztW (ds:List D) (lo hi:Option Int):(cutD ds lo hi).length<=ds.length:=by
 unfold cutD
 rw [ybn,ycf]
 omega
theorem zrT {p:D} (h:zcC p):Pair p:=by
 obtain ⟨a,s,rfl,ha,hs⟩:=h
 refine ⟨a,s,rfl,zio ha,?_⟩
 rcases hs with rfl | rfl
 ·exact Sm.of (by decide +kernel)
 ·exact Sm.of (by decide +kernel)
end VW
set_option maxHeartbeats 4000000
namespace VW
open PySem PySem.Spec PyProof.Rows L2 R
def zlE:WS:=sSet 2 (w2 zns (oVal (w2 opIx (oPk 0) (oVal (wC (.int 0))))) (oPk 1))
def ziq:WS:=sSub opSt 0 (oVal (wC (.int 0))) (w2 zyc (oVal (w2 opIx (oPk 0) (oVal (wC (.int 0))))) (oPk 1))
def zgz:WS:=sRet (oPk 2)
def zqD:WS:=sSeq (zlE) (sSeq (ziq) (zgz))
abbrev ztX:Type:=D×List D
def zaw (held_1:List D) (many_1:D):R (ztX) :=
 R.bind (nIx (.lst held_1) (.int 0)) λt_1 =>
 R.bind (nMod t_1 many_1) λt_2 =>
 R.bind (nIx (.lst held_1) (.int 0)) λt_3 =>
 R.bind (nDiv t_3 many_1) λt_4 =>
 R.bind (nStL held_1 (.int 0) t_4) λheld_2 =>
 .ok (t_2,held_2)
abbrev zki (ms:List M) (Q:M->En->Prop) (X:Xn->Prop):Prop:=∃ (held_1:List D) (many_1:D),ms=[(.lst held_1),(.fz many_1)]/\(zaw held_1 many_1).post (λr=>Q (M.fz r.1) [some (.lst r.2),none]) X
abbrev zal:Fn:=⟨2,[0],zki⟩
theorem zph:zbm zki:=λms Q Q' X X' hq hx ⟨held_1,many_1,e,h⟩=>⟨held_1,many_1,e,zay h (λ_ h=>hq _ _ h) hx⟩
theorem zwt (ms:List M) (Q:M->En->Prop) (X:Xn->Prop) (h:zki ms Q X):wFn 3 2 [0] zqD ms Q X:=by
 obtain ⟨held_1,many_1,rfl,h⟩:=h
 refine zbk (e0:=[some (.lst held_1),some (.fz many_1),none]) rfl λE hrt hnx hx => ?_
 show (sSeq zlE (sSeq ziq (zgz))) _ _
 refine zar (zaP (k_w2 (zag (k_w2 (k_pk rfl (zag (k_c (k_wp rfl (k_wv (k_ix h λt_1 h=>k_pk rfl (k_wv (k_wp rfl (zrs h λt_2 h => ?_)))))))))))))
 show (sSeq ziq (zgz)) _ [some (.lst held_1),some (.fz many_1),some (.fz t_2)]
 refine zar (znD (k_w2 (zag (k_w2 (k_pk rfl (zag (k_c (k_wp rfl (k_wv (k_ix h λt_3 h=>k_pk rfl (k_wv (k_wp rfl (k_div h λt_4 h=>znE rfl (zag (k_c (znF rfl rfl (k_wv (zs3 h λheld_2 h => ?_))))))))))))))))))
 show zgz _ [some (.lst held_2),some (.fz many_1),some (.fz t_2)]
 refine ziT rfl (?_)
 exact hrt _ _ h
theorem r_take {h m:Int} (h0:0<m) (h1:m<1073741824):zaw [.int h] (.int m)=.ok (.int (h % m),[.int (h / m)]):=by
 simp [zaw,zke h0,zzb h0 h1]
theorem zpi {n:Nat} {ds:List D} (h:Sm n (.tup ds)):nIsi "tuple" (.tup ds)=.ok true:=ztK h
theorem ztY {ds:List D} {kvs:List (Key×D)} (h:zgP ds=some kvs):zrp (.tup ds)=.ok (zhz [] kvs):=by
 unfold zrp
 simp only [h,ofO,zab]
theorem zn1 {σ β:Type} {body:D->σ->(σ->R β)->R β} {after:σ->R β} {d:D} {ds:List D} {s:σ}:R.forN body after (d::ds) s=body d s λs=>R.forN body after ds s:=rfl
theorem zhM {σ:Type} {body:D->σ->R σ} {d:D} {ds:List D} {s:σ}:R.forS body (d::ds) s=(body d s).bind λs=>R.forS body ds s:=rfl
theorem zch (h:Int) {m:Int} (h0:0<m) (h1:m<1073741824):∃ i h',zaw [.int h] (.int m)=.ok (.int i,[.int h'])/\0<=i/\i<m :=
 ⟨_,_,r_take h0 h1,ych _ (by omega),yb7 _ h0⟩
theorem zzm {xs:List D} {i:Int} (h0:0<=i) (h1:i<xs.length):∃ x,x∈xs/\nIx (.lst xs) (.int i)=.ok x:=by
 obtain ⟨x,hx,e⟩:=zgx h0 h1
 exact ⟨x,yaL hx,zkg e⟩
theorem ixt_of {xs:List D} {i:Int} (h0:0<=i) (h1:i<xs.length):∃ x,xs[i.toNat]?=some x/\x∈xs/\nIx (.tup xs) (.int i)=.ok x:=by
 obtain ⟨x,hx,e⟩:=zgx h0 h1
 exact ⟨x,hx,yaL hx,zkf e⟩
theorem ztZ (ts:List Str):zrq (ts.map D.str)=some ts:=by
 induction ts with
 | nil=>rfl
 | cons t ts ih =>
   show (zrq (ts.map D.str)).map (t :: ·)=_
   rw [ih]
   rfl
theorem zwu {s:Str} {ts:List Str} (h:(ts.map (·.length)).sum+ts.length*s.length<=16777216):zrr (.str s) (.lst (ts.map D.str))=.ok (.str (Txt.join s ts)):=by
 unfold zrr
 simp only [ztZ,ofO,zab,zaz (zdT h)]
theorem zzn (cs:List Nat):cs.map sgn=(cs.map λc=>(⟨#[c]⟩:Str)).map D.str:=by
 rw [yaY]
 rfl
theorem zrU {cs:List Nat} (h:cs.length<=1000):∃ w:Str,zrr (.str "") (.lst (cs.map sgn))=.ok (.str w)/\w.cps.toList=cs:=by
 refine ⟨_,?_,zrP cs⟩
 rw [zzn]
 refine zwu ?_
 rw [ztP,yac]
 show cs.length+cs.length*0<=_
 omega
theorem zzo {xs:List D} {A:Nat->Prop} (h:∀ x∈xs,∃ c,x=sgn c/\A c):∃ cs:List Nat,xs=cs.map sgn/\∀ c∈cs,A c:=by
 induction xs with
 | nil=>exact ⟨[],rfl,λ_ z=>absurd z ybb⟩
 | cons x xs ih =>
   obtain ⟨c,rfl,hc⟩:=h x yaa
   obtain ⟨cs,rfl,hcs⟩:=ih λy hy=>h y (yab _ hy)
   exact ⟨c::cs,rfl,λy hy=>(yap.mp hy).elim (λe=>e▸hc) (hcs y)⟩
theorem slen (w:Str):w.length=w.cps.toList.length:=(ya3).symm
theorem zzp {s t:Str} {i:Nat} {rest:List Nat} (h:Builtin.Str.occurrences s t 0 s.length 1=i::rest):nSIx (.str s) (.str t)=.ok (.int i):=by
 unfold nSIx
 simp only [h]
theorem zdC (a b:Str):(a++b).cps.toList=a.cps.toList++b.cps.toList:=by
 show (a.cps++b.cps).toList=_
 exact Array.toList_append
theorem zwv {ns:List Str} {i:Int} (h0:0<=i) (h1:i<ns.length):∃ s,s∈ns/\nIx (.lst (ns.map D.str)) (.int i)=.ok (.str s):=by
 obtain ⟨x,hx,e⟩:=zzm (xs:=ns.map D.str) h0 (by rw [yac]; exact h1)
 obtain ⟨s,hs,rfl⟩:=yan.mp hx
 exact ⟨s,hs,e⟩
theorem zzq {i:Int} (h0:0<=i) (h1:i<2):∃ s:Str,(s = "+" \/ s = "-")/\nIx (.str "+-") (.int i)=.ok (.str s):=by
 rcases (show i=0\/i=1 by omega) with rfl | rfl
 ·exact ⟨"+",.inl rfl,zmO (c:=43) (by decide) (by decide)⟩
 ·exact ⟨"-",.inr rfl,zmO (c:=45) (by decide) (by decide)⟩
theorem nAddT {s t:List D} (h:s.length+t.length<=1000):nAdd (.tup s) (.tup t)=.ok (.fz (.tup (s++t))):=zzd (ze9 h)
def zfO:D->D
 | .tup [_,p]=>p
 | _=>.non
theorem zlF:∀ {rows:List D},(∀ r∈rows,GRow r)->zgP rows=some (rows.map λr=>((Sum.inr (zav r):Key),zfO r))
 | [],_=>rfl
 | r::rows,h=>by
   obtain ⟨n,ps,rfl,_⟩:=h r yaa
   unfold zgP
   rw [zlF λx hx=>h x (yab _ hx)]
   rfl
theorem zkj {rows:List D} (hr:zjk "" rows=true):(rows.map zav).Nodup:=by
 have ha:=znZ _ _ hr
 rw [ziU ha,yas,yaq,yaq] at hr
 have l:((rows.map zav).map (Sum.inr:Str->Key)).length=(rows.map zav).length:=yac _
 exact zfj.mp (zfX.mp (hr.2.trans l.symm))
theorem zrV {rows:List D} (hr:zjk "" rows=true) (hg:∀ r∈rows,GRow r):zrp (.tup rows)=.ok (rows.map λr=>((Sum.inr (zav r):Key),zfO r)):=by
 rw [ztY (zlF hg),zrn]
 rw [yaY]
 have e:((λx:Key×D=>x.1)∘λr=>((Sum.inr (zav r):Key),zfO r))=(Sum.inr∘zav):=rfl
 rw [e,← yaY]
 exact zfj.mpr (zkj hr)
theorem zn2 {rows:List D} (hr:zjk "" rows=true) {r:D} (hm:r∈rows):getK (rows.map λr=>((Sum.inr (zav r):Key),zfO r)) (Sum.inr (zav r))=some (zfO r):=by
 refine zmo ?_ (yan.mpr ⟨r,hm,rfl⟩)
 rw [yaY]
 have e:((λx:Key×D=>x.1)∘λr=>((Sum.inr (zav r):Key),zfO r))=(Sum.inr∘zav):=rfl
 rw [e,← yaY]
 exact zfj.mpr (zkj hr)
theorem zn3 {s:Str} (h:s = "+" \/ s = "-"):zjl s≠s/\zjl (zjl s)=s/\(zjl s = "+" \/ zjl s = "-"):=by
 rcases h with rfl | rfl<;>decide +kernel
theorem zkk {β:Type} {body:D->Unit->(Unit->R β)->R β} {after:Unit->R β} {ds:List D} (h:∀ d∈ds,∀ K,body d () K=K ()):R.forN body after ds ()=after ():=by
 induction ds with
 | nil=>rfl
 | cons d ds ih=>rw [zn1,h d yaa,ih λx hx=>h x (yab _ hx)]
end VW
set_option maxHeartbeats 4000000
namespace VW
open PySem PySem.Spec PyProof.Rows L2 R
def zqE:WS:=sRet (oVal (wN zbr (zae (oFz (w2 opIx (oPk 0) (oVal (wC (.int 0))))) (zae (oFz (wIf (tVal (w2 (opEq false) (oVal (w2 opIx (oPk 0) (oVal (wC (.int 1))))) (oVal (wC (.str "+"))))) (wC (.str "-")) (wC (.str "+")))) (aNil)))))
abbrev zt0:Type:=D
@[irreducible] def zcJ (spec_1:D):R (zt0) :=
  R.bind (nIx spec_1 (.int 0)) λt_1 =>
  R.bind (nIx spec_1 (.int 1)) λt_2 =>
  R.bind (nEq false t_2 (.str "+")) λt_3 =>
  R.bind (if t_3=true then (.ok ((.str "-")):R (D)) else .ok ((.str "+"))) λt_4 =>
  .ok (.tup [t_1,t_4])
abbrev zkl (ms:List M) (Q:M->En->Prop) (X:Xn->Prop):Prop:=∃ (spec_1:D),ms=[(.fz spec_1)]/\(zcJ spec_1).post (λr=>Q (M.fz r) [none]) X
abbrev zcK:Fn:=⟨1,[],zkl⟩
theorem zpj:zbm zkl:=λms Q Q' X X' hq hx ⟨spec_1,e,h⟩=>⟨spec_1,e,zay h (λ_ h=>hq _ _ h) hx⟩
theorem zww (ms:List M) (Q:M->En->Prop) (X:Xn->Prop) (h:zkl ms Q X):wFn 1 1 [] zqE ms Q X:=by
 obtain ⟨spec_1,rfl,h⟩:=h
 unfold zcJ at h
 refine zbk (e0:=[some (.fz spec_1)]) rfl λE hrt hnx hx => ?_
 refine za1 (k_wN (k_ac (k_fz (k_w2 (k_pk rfl (zag (k_c (k_wp rfl (k_wv (k_ix h λt_1 h=>k_ac (k_fz (zyA (zaN (k_w2 (zag (k_w2 (k_pk rfl (zag (k_c (k_wp rfl (k_wv (k_ix h λt_2 h=>zag (k_c (k_wv (k_wv (k_eq h λt_3 h=>j_tv (zyB (λv=>M.fz v) (λv=>[some (.fz spec_1)]) h (λJ0 h=>k_c (J0 (.str "-") h)) (λJ0 h=>k_c (J0 (.str "+") h)) (λt_4 h=>k_an (zao (zao (zak (zce rfl rfl (hrt _ _ h)))))))))))))))))))))))))))))))))
def zkm:WS:=sSet 2 (wLr1 (oPk 1))
def zha:WS:=sSet 3 (wN zbR (aNil))
def ziV:WS:=zee (wMut "list" za8 3 (zae (oFz (wMut "list" zhB 2 (zae (oFz (zaI zal (zae (oPk 0) (zae (oFz (wN zcc (zae (oPk 2) (aNil)))) (aNil))))) (aNil)))) (aNil)))
def zfz:WS:=zhv (tVal (w2 (opEq true) (oPk 2) (oVal (wN zbR (aNil)))))
 (ziV)
def zcW:WS:=sRet (oPk 3)
def zn4:WS:=sSeq (zkm) (sSeq (zha) (sSeq (zfz) (zcW)))
abbrev zir:Type:=List D×List D
def zn5 (s_1:List D×List D×List D) (K A:(List D×List D×List D)->R (zir)):R (zir) :=
 R.bind (nEq true (.lst s_1.2.1) (.lst ([]:List D))) λt_2 =>
 if t_2=true then
 R.bind (nLen (.lst s_1.2.1)) λt_3 =>
 R.bind (zaw s_1.1 t_3) λt_4 =>
 R.bind (nPop s_1.2.1 t_4.1) λt_5 =>
 R.bind (nApp s_1.2.2 t_5.1) λfound_1 =>
 K (t_4.2,t_5.2,found_1)
 else A s_1
@[irreducible] def zn6 (held_1:List D) (many_1:D):R (zir) :=
  R.bind (nLr1 many_1) λt_1 =>
  R.whileN (zn5) (λ(s_2:List D×List D×List D) =>
  .ok (s_2.2.2,s_2.1)) most (held_1,t_1,([]:List D))
abbrev zis (ms:List M) (Q:M->En->Prop) (X:Xn->Prop):Prop:=∃ (held_1:List D) (many_1:D),ms=[(.lst held_1),(.fz many_1)]/\(zn6 held_1 many_1).post (λr=>Q (M.lst r.1) [some (.lst r.2),none]) X
abbrev zt1:Fn:=⟨2,[0],zis⟩
theorem zn7:zbm zis:=λms Q Q' X X' hq hx ⟨held_1,many_1,e,h⟩=>⟨held_1,many_1,e,zay h (λ_ h=>hq _ _ h) hx⟩
theorem zt2 (ms:List M) (Q:M->En->Prop) (X:Xn->Prop) (h:zis ms Q X):wFn 4 2 [0] zn4 ms Q X:=by
 obtain ⟨held_1,many_1,rfl,h⟩:=h
 unfold zn6 at h
 refine zbk (e0:=[some (.lst held_1),some (.fz many_1),none,none]) rfl λE hrt hnx hx => ?_
 show (sSeq zkm (sSeq zha (sSeq zfz (zcW)))) _ _
 refine zar (zaP (k_wlr1 (k_pk rfl (k_wp rfl (k_lr1 h λt_1 h => ?_)))))
 show (sSeq zha (sSeq zfz (zcW))) _ [some (.lst held_1),some (.fz many_1),some (.lst t_1),none]
 refine zar (zaP (k_wN (k_an (zak (zcA rfl rfl (?_))))))
 show (sSeq zfz (zcW)) _ [some (.lst held_1),some (.fz many_1),some (.lst t_1),some (.lst ([]:List D))]
 refine zar (zhH (λ(s_1:List D×List D×List D) (j_1:Unit)=>[some (.lst s_1.1),some (.fz many_1),some (.lst s_1.2.1),some (.lst s_1.2.2)]) (λs_2 j_2 h => ?_) (λha => ?_) most (held_1,t_1,([]:List D)) () h)
 ·first | show zcW _ [some (.lst s_2.1),some (.fz many_1),some (.lst s_2.2.1),some (.lst s_2.2.2)] | ((with_reducible show zcW _ _); show zcW _ [some (.lst s_2.1),some (.fz many_1),some (.lst s_2.2.1),some (.lst s_2.2.2)])
  refine ziT rfl (?_)
  exact hrt _ _ h
 ·intro s_1 j_1 N K hn h
  refine zaN (k_w2 (k_pk rfl (zag (k_wN (k_an (zak (zcA rfl rfl (k_wp rfl (k_wv (k_eq h λt_2 h=>j_tv (zs6 h (λh => ?_) (λh => ?_))))))))))))
  ·show ziV _ [some (.lst s_1.1),some (.fz many_1),some (.lst s_1.2.1),some (.lst s_1.2.2)]
   refine zcB (zeE rfl rfl (k_ac (k_fz (zeE rfl rfl (k_ac (k_fz (zas (k_ac (k_pk rfl (k_ac (k_fz (k_wN (k_ac (k_pk rfl (k_an (zbn rfl (zak (zcz h λt_3 h=>k_an (zbj rfl (zau (zaJ ⟨rfl,_,_,rfl,zaq h (λt_4 h=>k_an (zeF rfl rfl (zao (zak (znG h λt_5 h=>k_an (zeF rfl rfl (zao (zak (zfZ h λfound_1 h => ?_))))))))) (λx z=>hx x _ z)⟩)))))))))))))))))))))
   exact hn (t_4.2,t_5.2,found_1) () h
  ·exact ha s_1 j_1 h
def zlG:WS:=sSet 3 (zx4)
def zmR:WS:=sSub opSt 3 (oPk 4) (wC (.bl true))
def zef:WS:=sSub opSt 3 (oPk 5) (wC (.bl true))
def zkn:WS:=sSeq (zmR) (zef)
def zit:WS:=zmB false 2 (.tp [.nm 4,.nm 5])
 (zkn)
def zgA:WS:=sSet 6 (wN zp9 (zae (oPk 0) (aNil)))
def zfm:WS:=sSet 7 (wN zbR (aNil))
def zko:WS:=zee (wMut "list" zgw 7 (zae (oVal (wLc (iEn (w2 opIx (oPk 6) (oPk 9))) (.tp [.nm 10,.nm 11]) (tVal (w2 (opIn true) (oVal (wN zbr (zae (oFz (wVar 8)) (zae (oFz (wVar 10)) (aNil))))) (oPk 3))) (wN zbr (zae (oFz (wN zbr (zae (oFz (wVar 8)) (zae (oFz (wVar 10)) (aNil))))) (zae (oFz (wVar 11)) (aNil)))) [10,11])) (aNil)))
def zeo:WS:=zmB true 1 (.tp [.nm 8,.nm 9])
 (zko)
def zct:WS:=sRet (oPk 7)
def zqF:WS:=sSeq (zlG) (sSeq (zit) (sSeq (zgA) (sSeq (zfm) (sSeq (zeo) (zct)))))
abbrev zt3:Type:=List D
def zeH (d_1:D) (s_1:List (List Key×D)):R (List (List Key×D)) :=
 R.bind (nUn2 d_1) λp_1 =>
 R.bind (nStT s_1 p_1.1 (.bl true)) λgone_1 =>
 R.bind (nStT gone_1 p_1.2 (.bl true)) λgone_2 =>
 .ok gone_2
def zeI (t_1:List (Key×D)) (s_2:List (List Key×D)) (d_2:D) (s_3:List D):R (List D) :=
 R.bind (nUn2 d_2) λp_2 =>
 R.bind (nIx (.dK t_1) p_2.2) λt_2 =>
 R.bind (zmz t_2) λds_3 =>
 R.bind (lcF (λd_3:D=>R.bind (nUn2 d_3) λp_4 =>
 R.bind (nIn true (.tup [p_2.1,p_4.1]) (.dT s_2)) λt_3 =>
 if t_3=true then (.ok ((some (.tup [(.tup [p_2.1,p_4.1]),p_4.2]))):R (Option D)) else .ok none) ds_3) λxs_1 =>
 R.bind (nExt s_3 (.lst xs_1)) λfound_1 =>
 .ok found_1
@[irreducible] def zdO (stock_1:D) (boxes_1:M) (pairs_1:M):R (zt3) :=
  R.bind (nOwn false pairs_1) λds_1 =>
  R.bind (R.forS (zeH) ds_1 ([]:List (List Key×D))) λs_2 =>
  R.bind (zrp stock_1) λt_1 =>
  R.bind (nOwn true boxes_1) λds_2 =>
  R.bind (R.forS (zeI t_1 s_2) ds_2 ([]:List D)) λs_4 =>
  .ok s_4
abbrev zkp (ms:List M) (Q:M->En->Prop) (X:Xn->Prop):Prop:=∃ (stock_1:D) (boxes_1:M) (pairs_1:M),ms=[(.fz stock_1),boxes_1,pairs_1]/\(zdO stock_1 boxes_1 pairs_1).post (λr=>Q (M.lst r) [none,some boxes_1,some pairs_1]) X
abbrev zeg:Fn:=⟨3,[1,2],zkp⟩
theorem zpk:zbm zkp:=λms Q Q' X X' hq hx ⟨stock_1,boxes_1,pairs_1,e,h⟩=>⟨stock_1,boxes_1,pairs_1,e,zay h (λ_ h=>hq _ _ h) hx⟩
theorem zwx (ms:List M) (Q:M->En->Prop) (X:Xn->Prop) (h:zkp ms Q X):wFn 12 3 [1,2] zqF ms Q X:=by
 obtain ⟨stock_1,boxes_1,pairs_1,rfl,h⟩:=h
 unfold zdO at h
 refine zbk (e0:=[some (.fz stock_1),some boxes_1,some pairs_1,none,none,none,none,none,none,none,none,none]) rfl λE hrt hnx hx => ?_
 show (sSeq zlG (sSeq zit (sSeq zgA (sSeq zfm (sSeq zeo (zct)))))) _ _
 refine zar @(zaP @(k_dT (?_)))
 show (sSeq zit (sSeq zgA (sSeq zfm (sSeq zeo (zct))))) _ [some (.fz stock_1),some boxes_1,some pairs_1,some (.dT ([]:List (List Key×D))),none,none,none,none,none,none,none,none]
 refine zar @(zxj rfl h λds_1 h=>zcf (λ(s_1:List (List Key×D)) (j_1:Option M×Option M)=>[some (.fz stock_1),some boxes_1,none,some (.dT s_1),j_1.1,j_1.2,none,none,none,none,none,none]) ?_ ?_ _ ([]:List (List Key×D)) (none,none) h)
 ·intro d_1 s_1 j_1 N S hn h
  refine zbF h λp_1 h=>zaB @(g_nm @(zaB @(g_nm @(zdB (?_)))))
  show zkn _ [some (.fz stock_1),some boxes_1,none,some (.dT s_1),some (.fz p_1.1),some (.fz p_1.2),none,none,none,none,none,none]
  refine zar @(znD @(k_c @(znE rfl @(k_pk rfl @(znF rfl rfl @(k_wp rfl @(k_stT h λgone_1 h => ?_)))))))
  try with_reducible show zef _ _
  show zef _ [some (.fz stock_1),some boxes_1,none,some (.dT gone_1),some (.fz p_1.1),some (.fz p_1.2),none,none,none,none,none,none]
  refine znD @(k_c @(znE rfl @(k_pk rfl @(znF rfl rfl @(k_wp rfl @(k_stT h λgone_2 h => ?_))))))
  exact hn gone_2 ((some (.fz p_1.1)),(some (.fz p_1.2))) h
 ·intro s_2 j_2 h
  refine zxk ?_
  show (sSeq zgA (sSeq zfm (sSeq zeo (zct)))) _ [some (.fz stock_1),some boxes_1,some pairs_1,some (.dT s_2),j_2.1,j_2.2,none,none,none,none,none,none]
  refine zar @(zaP @(k_wN @(k_ac @(k_pk rfl @(k_an @(zbn rfl @(zak @(k_dict h λt_1 h => ?_))))))))
  show (sSeq zfm (sSeq zeo (zct))) _ [some (.fz stock_1),some boxes_1,some pairs_1,some (.dT s_2),j_2.1,j_2.2,some (.dK t_1),none,none,none,none,none]
  refine zar @(zaP @(k_wN @(k_an @(zak @(zcA rfl rfl (?_))))))
  show (sSeq zeo (zct)) _ [some (.fz stock_1),some boxes_1,some pairs_1,some (.dT s_2),j_2.1,j_2.2,some (.dK t_1),some (.lst ([]:List D)),none,none,none,none]
  refine zar @(zxj rfl h λds_2 h=>zcf (λ(s_3:List D) (j_3:Option M×Option M)=>[some (.fz stock_1),none,some pairs_1,some (.dT s_2),j_2.1,j_2.2,some (.dK t_1),some (.lst s_3),j_3.1,j_3.2,none,none]) ?_ ?_ _ ([]:List D) (none,none) h)
  ·intro d_2 s_3 j_3 N S hn h
   refine zbF h λp_2 h=>zaB @(g_nm @(zaB @(g_nm @(zdB (?_)))))
   show zko _ [some (.fz stock_1),none,some pairs_1,some (.dT s_2),j_2.1,j_2.2,some (.dK t_1),some (.lst s_3),some (.fz p_2.1),some (.fz p_2.2),none,none]
   refine zcB @(zeE rfl rfl @(k_ac @(zag @(k_lc @(zmA @(k_w2 @(k_pk rfl @(k_pk rfl @(k_wp rfl @(k_wp rfl @(k_ix h λt_2 h=>zls h λds_3 h=>zo9 h (λd_3 S KK K0 hk h0 h=>zbF h λp_4 h=>zaB @(g_nm @(zaB @(g_nm @(zdB @(zpa @(zaN @(k_w2 @(zag @(zka (λQ hq=>k_wN @(k_ac @(k_fz @(zam rfl @(k_ac @(k_fz @(zam rfl @(k_an @(zao @(zao @(zak @(zce rfl rfl hq)))))))))))) @(k_pk rfl @(k_wv @(k_wp rfl @(k_in h λt_3 h=>j_tv @(zpb h (λh=>zka (λQ hq=>k_wN @(k_ac @(k_fz @(zka (λQ hq=>k_wN @(k_ac @(k_fz @(zam rfl @(k_ac @(k_fz @(zam rfl @(k_an @(zao @(zao @(zak @(zce rfl rfl hq)))))))))))) @(k_ac @(k_fz @(zam rfl @(k_an @(zao @(zao @(zak @(zce rfl rfl hq)))))))))))) (hk _ _ rfl h)) (λh=>h0 _ rfl h)))))))))))))))) λxs_1 h=>k_an @(zeF rfl rfl @(zao @(zak @(zyz h λfound_1 h => ?_)))))))))))))))
   exact hn found_1 ((some (.fz p_2.1)),(some (.fz p_2.2))) h
  ·intro s_4 j_4 h
   refine zxk ?_
   try with_reducible show zct _ _
   show zct _ [some (.fz stock_1),some boxes_1,some pairs_1,some (.dT s_2),j_2.1,j_2.2,some (.dK t_1),some (.lst s_4),j_4.1,j_4.2,none,none]
   refine ziT rfl (?_)
   exact hrt _ _ h
abbrev zfP:Type:=Bool
def zdh (t_2:List (List Key×D)) (d_2:D) (s_1:List D) (K:(List D)->R (zfP)):R (zfP) :=
 R.bind (nUn2 d_2) λp_1 =>
 R.bind (nExt s_1 (.lst [p_1.1,p_1.2])) λmet_1 =>
 R.bind (nIn true p_1.1 (.dT t_2)) λt_9 =>
 R.bind (orB t_9 (R.bind (nIn true p_1.2 (.dT t_2)) λt_10=>orB t_10 (R.bind (nIx (.dT t_2) p_1.1) λt_11=>R.bind (nIx (.dT t_2) p_1.2) λt_12=>R.bind (zcJ t_12) λt_13=>nEq true t_11 t_13))) λc_3 =>
 if c_3=true then
 .ok false
 else
 K met_1
structure Lin {α:Type} (lt:α->α->Bool):Prop where
 irr:∀ a,lt a a=false
 tr:∀ a b c,lt a b=true->lt b c=true->lt a c=true
 tri:∀ a b,lt a b=false->lt b a=false->a=b
def leOf {α:Type} (lt:α->α->Bool) (a b:α):Bool:=!lt b a
abbrev End:=Int×Int
abbrev Wire:=End×End
def eD (e:End):D:=.tup [.int e.1,.int e.2]
def eK (e:End):List Key:=[.inl e.1,.inl e.2]
def eP (e:End):PyData:=.tuple [.int e.1,.int e.2]
def wD (w:Wire):D:=.tup [eD w.1,eD w.2]
def wP (w:Wire):PyData:=.tuple [eP w.1,eP w.2]
def ltE (a b:End):Bool:=decide (a.1<b.1\/(a.1=b.1/\a.2<b.2))
def ltW (a b:Wire):Bool:=if a.1=b.1 then ltE a.2 b.2 else ltE a.1 b.1
theorem zxv {a b:End} (h:eD a=eD b):a=b:=by
 obtain ⟨a1,a2⟩:=a
 obtain ⟨b1,b2⟩:=b
 unfold eD at h
 injection h with h
 injection h with h1 h
 injection h with h2 h
 injection h1 with h1
 injection h2 with h2
 subst h1 h2
 rfl
theorem zxw {a b:End} (h:eK a=eK b):a=b:=by
 obtain ⟨a1,a2⟩:=a
 obtain ⟨b1,b2⟩:=b
 unfold eK at h
 injection h with h1 h
 injection h with h2 h
 injection h1 with h1
 injection h2 with h2
 subst h1 h2
 rfl
theorem linE:Lin ltE where
 irr:=λa=>by
  unfold ltE
  exact yaD (by omega)
 tr:=λa b c h h'=>by
  unfold ltE at *
  have h:=yao h
  have h':=yao h'
  exact yaf (by omega)
 tri:=λa b h h'=>by
  unfold ltE at *
  have h:=yb3 h
  have h':=yb3 h'
  obtain ⟨a1,a2⟩:=a
  obtain ⟨b1,b2⟩:=b
  dsimp only at h h'
  have e1:a1=b1:=by omega
  have e2:a2=b2:=by omega
  rw [e1,e2]
theorem zzr (e:End):(eD e).py=some (eP e):=rfl
theorem wD_py (w:Wire):(wD w).py=some (wP w):=rfl
theorem zwy (a b:End):ltD (eD a) (eD b)=ltE a b:=PySem.W.dataLt_ii a.1 a.2 b.1 b.2
theorem eqv_e (a b:End):PyData.eqv (eP a) (eP b)=decide (a=b):=by
 rw [ybT,yaq,zmm (p:=eP a) (q:=eP b) rfl rfl]
 constructor
 ·intro h
  have:eD a=eD b:=zsV (zzr a) (h▸zzr b)
  exact zxv this
 ·rintro rfl
  rfl
theorem ltD_w (a b:Wire):ltD (wD a) (wD b)=ltW a b:=by
 show PySem.W.dataLt (.tuple [eP a.1,eP a.2]) (.tuple [eP b.1,eP b.2])=_
 rw [PySem.W.dataLt_pair rfl rfl,eqv_e,eqv_e]
 unfold ltW
 by_cases e:a.1=b.1
 ·rw [yaw (yaf e),yaw e]
  by_cases e2:a.2=b.2
  ·rw [yaw (yaf e2),e2,linE.irr]
  ·rw [yaz (by rw [yaD e2]; exact yax)]
   exact zwy a.2 b.2
 ·rw [yaz (by rw [yaD e]; exact yax),yaz e]
  exact zwy a.1 b.1
theorem sort_e (l:List End):zfh (l.map eD)=(l.mergeSort (leOf ltE)).map eD:=by
 unfold zfh
 refine (ybS λa _ b _ => ?_).symm
 unfold leD leOf
 rw [zwy]
theorem sort_w (l:List Wire):zfh (l.map wD)=(l.mergeSort (leOf ltW)).map wD:=by
 unfold zfh
 refine (ybS λa _ b _ => ?_).symm
 unfold leD leOf
 rw [ltD_w]
theorem zmS {α:Type} {enc:α->D} {p:α->PyData} (h:∀ a,(enc a).py=some (p a)):∀ l:List α,D.pys (l.map enc)=some (l.map p)
 | []=>rfl
 | a::l=>by
   rw [yaH,yaH]
   unfold D.pys
   rw [h a,zmS h l]
theorem zlH {α:Type} {p:α->PyData} (l:List α) (ha:∀ a b,PySem.W.alike (p a) (p b)=true) (hd:∀ a,(p a).depth<=60) (ht:∀ a,∃ x xs,p a=.tuple (x::xs)):zfi (l.map p)=true:=by
 unfold zfi
 rw [yas,yas,ybm,yav,yav]
 refine ⟨⟨λq hq => ?_,λq hq => ?_⟩,.inl ?_⟩
 ·obtain ⟨a,_,rfl⟩:=yan.mp hq
  rw [yav]
  intro r hr
  obtain ⟨b,_,rfl⟩:=yan.mp hr
  exact ha a b
 ·obtain ⟨a,_,rfl⟩:=yan.mp hq
  exact yaf (hd a)
 ·rw [yav]
  intro q hq
  obtain ⟨a,_,rfl⟩:=yan.mp hq
  obtain ⟨x,xs,e⟩:=ht a
  rw [e]
theorem zt4 (l:List End):zeG (l.map eD)=.ok ((l.mergeSort (leOf ltE)).map eD):=by
 unfold zeG
 rw [zmS zzr]
 show need (zfi (l.map eP)) (R.ok (zfh (l.map eD)))=_
 rw [zaz (zlH (p:=eP) l (λ_ _=>rfl) (λa=>by show max 0 (max 0 0)+1<=60; decide) λa=>⟨_,_,rfl⟩),sort_e]
theorem zt5 (l:List Wire):zeG (l.map wD)=.ok ((l.mergeSort (leOf ltW)).map wD):=by
 unfold zeG
 rw [zmS wD_py]
 show need (zfi (l.map wP)) (R.ok (zfh (l.map wD)))=_
 rw [zaz (zlH (p:=wP) l (λ_ _=>rfl) (λa=>by show max (max 0 (max 0 0)+1) (max (max 0 (max 0 0)+1) 0)+1<=60; decide) λa=>⟨_,_,rfl⟩),sort_w]
theorem nSA_l (ds:List D):zdM (.lst ds)=zeG ds:=rfl
theorem zkq (n:Nat) (i:Int):Sm n (.int i):=by cases n<;>trivial
theorem sm_e (n:Nat) (e:End):Sm (n+1) (eD e):=sm_two (zkq n _) (zkq n _)
theorem sm_w (n:Nat) (w:Wire):Sm (n+2) (wD w):=sm_two (sm_e n _) (sm_e n _)
theorem zt6 {α β:Type} {f:α->β} (inj:∀ a b,f a=f b->a=b) {l:List α} (h:l.Nodup):(l.map f).Nodup:=yca.mpr (h.imp λn e=>n (inj _ _ e))
def asE:D->Option End
 | .tup [x,y]=>match intD x,intD y with
   | some a,some b=>some (a,b)
   | _,_=>none
 | _=>none
def enF (j:Nat):List D->List D
 | []=>[]
 | d::ds=>.tup [.int (j:Nat),d]::enF (j+1) ds
theorem zt7 (ds:List D):enD ds=enF 0 ds:=by
 have h:∀ (ds:List D) (j:Nat),(ds.mapIdx λi d=>D.tup [.int ((i+j:Nat):Int),d])=enF j ds:=by
  intro ds
  induction ds with
  | nil=>exact λ_=>rfl
  | cons d ds ih =>
    intro j
    rw [List.mapIdx_cons]
    unfold enF
    rw [ya4,← ih (j+1)]
    congr 2
    funext i d
    rw [Nat.add_assoc,Nat.add_comm 1 j]
 exact h ds 0
theorem zpl (ds:List D):zmz (.tup ds)=.ok (enF 0 ds):=by rw [← zt7]; rfl
def zf2 (b:Int) (j:Nat):List D->List (End×D)
 | []=>[]
 | d::ds=>((b,(j:Int)),d)::zf2 b (j+1) ds
theorem zkr {b:Int}:∀ {ds:List D} {j:Nat} {x:End×D},x∈zf2 b j ds->∃ k:Nat,j<=k/\k<j+ds.length/\x.1=(b,(k:Int))/\ds[k-j]?=some x.2
 | [],_,_,h=>nomatch h
 | d::ds,j,x,h=>by
   rcases yap.mp h with rfl | h
   ·exact ⟨j,yaj _,by simp,rfl,by simp⟩
   ·obtain ⟨k,h1,h2,h3,h4⟩:=zkr h
    refine ⟨k,by omega,by rw [yaB]; omega,h3,?_⟩
    rw [show k-j=(k-(j+1))+1 by omega,ycF]
    exact h4
theorem zf3 (b:Int):∀ (ds:List D) (j:Nat),(zf2 b j ds).length=ds.length
 | [],_=>rfl
 | _::ds,j=>ya8 (· + 1) (zf3 b ds (j+1))
def stkD (rows:List D):List (Key×D):=rows.map λr=>((Sum.inr (zav r):Key),zfO r)
def zmT:D->List D
 | .tup ds=>ds
 | _=>[]
def zdU (rows:List D) (s:Str):List D:=zmT ((getK (stkD rows) (.inr s)).getD .non)
def zhN (rows:List D) (j:Nat):List Str->List (End×D)
 | []=>[]
 | s::ss=>zf2 (j:Int) 0 (zdU rows s)++zhN rows (j+1) ss
theorem zks {rows:List D}:∀ {ss:List Str} {j:Nat} {x:End×D},x∈zhN rows j ss->∃ (k p:Nat) (s:Str),j<=k/\s∈ss/\ss[k-j]?=some s/\x.1=((k:Int),(p:Int))/\(zdU rows s)[p]?=some x.2
 | [],_,_,h=>nomatch h
 | s::ss,j,x,h=>by
   rcases yay.mp h with h | h
   ·obtain ⟨p,_,_,h3,h4⟩:=zkr h
    exact ⟨j,p,s,yaj _,yaa,by simp,h3,by simpa using h4⟩
   ·obtain ⟨k,p,t,h1,h2,h3,h4,h5⟩:=zks h
    refine ⟨k,p,t,by omega,yab _ h2,?_,h4,h5⟩
    rw [show k-j=(k-(j+1))+1 by omega,ycF]
    exact h3
def zed (L:List (End×D)):List (List Key×D):=L.map λx=>(eK x.1,x.2)
theorem zhb (L:List (End×D)):(zed L).map (·.1)=(L.map (·.1)).map eK:=by
 unfold zed
 rw [yaY,yaY]
 rfl
theorem zrW (L K:List (End×D)):zed (L++K)=zed L++zed K:=yaR
theorem zxx {e:End} {l:List End}:eK e∈l.map eK↔e∈l:=by
 constructor
 ·intro h
  obtain ⟨x,hx,y⟩:=yan.mp h
  rw [← zxw y]
  exact hx
 ·exact λh=>yan.mpr ⟨e,h,rfl⟩
theorem zxy (e:End):keyT (eD e)=some (eK e):=rfl
theorem nStT_e {L:List (End×D)} {e:End} {v:D} (h:e∉L.map (·.1)) (hl:L.length<16777216):nStT (zed L) (eD e) v=.ok (zed (L++[(e,v)])):=by
 unfold nStT
 rw [zxy]
 show need _ _=_
 rw [zaz (yaf (by unfold zed; rw [yac]; exact hl)),zqh (by rw [zhb,zxx]; exact h),zrW]
 rfl
theorem zqG {L:List (End×D)} {e:End} {v:D} (nd:(L.map (·.1)).Nodup) (h:(e,v)∈L):getK (zed L) (eK e)=some v:=by
 refine zmo ?_ (yan.mpr ⟨(e,v),h,rfl⟩)
 rw [zhb]
 exact zt6 (λ_ _=>zxw) nd
theorem zzs (neg:Bool) (L:List (End×D)) (e:End):nIn neg (eD e) (.dT (zed L))=.ok (xorB neg (decide (e∈L.map (·.1)))):=by
 show R.ok (xorB neg (getK (zed L) (eK e)).isSome)=_
 rw [zo7,zhb]
 congr 2
 rw [decide_eq_decide]
 exact zxx
theorem nIx_e {L:List (End×D)} {e:End} {v:D} (nd:(L.map (·.1)).Nodup) (h:(e,v)∈L):nIx (.dT (zed L)) (eD e)=.ok v:=nIx_dT (zxy e) (zqG nd h)
structure Stok (rows:List D):Prop where
 up:zjk "" rows=true
 good:∀ r∈rows,GRow r
 few:1<=rows.length/\rows.length<=8
section
variable {rows:List D}
theorem zt8 (S:Stok rows) {s:Str} (h:s∈rows.map zav):∃ ps,getK (stkD rows) (.inr s)=some (.tup ps)/\zdU rows s=ps/\1<=ps.length/\ps.length<=4/\∀ p∈ps,zcC p:=by
 obtain ⟨r,hr,rfl⟩:=yan.mp h
 have e:=zn2 S.up hr
 obtain ⟨n,ps,rfl,hn,l1,l4,hp⟩:=S.good r hr
 refine ⟨ps,e,?_,l1,l4,hp⟩
 unfold zdU
 show zmT ((getK (stkD rows) _).getD .non)=ps
 unfold stkD
 rw [e]
 rfl
theorem zhO (S:Stok rows):∀ (ss:List Str) (j:Nat),(∀ s∈ss,s∈rows.map zav)->(zhN rows j ss).length<=4*ss.length
 | [],_,_=>yaj _
 | s::ss,j,h=>by
   obtain ⟨ps,_,e2,_,l4,_⟩:=zt8 S (h s yaa)
   have ih:=zhO S ss (j+1) λt ht=>h t (yab _ ht)
   unfold zhN
   rw [yam,zf3,e2,yaB]
   omega
def pD (x:End×D):D:=.tup [eD x.1,x.2]
theorem zt9 {f:D->R D} {b:Int} (hf:∀ (j:Int) (d:D),f (.tup [.int j,d])=.ok (pD ((b,j),d))):∀ (ds:List D) (j:Nat),lcM' f (enF j ds)=.ok ((zf2 b j ds).map pD)
 | [],_=>rfl
 | d::ds,j=>by
   unfold enF lcM' zf2
   rw [hf,zt9 hf ds (j+1)]
   rfl
theorem zmU:∀ (ds:List D) (j:Nat),(enF j ds).length=ds.length
 | [],_=>rfl
 | _::ds,j=>ya8 (· + 1) (zmU ds (j+1))
theorem zwz {f:D->R D} {b:Int} (hf:∀ (j:Int) (d:D),f (.tup [.int j,d])=.ok (pD ((b,j),d))) (ds:List D) (hl:ds.length<=1000):lcM f (enF 0 ds)=.ok ((zf2 b 0 ds).map pD):=by
 unfold lcM
 rw [zaz (zdT (by rw [zmU,zf0]; omega)),zt9 hf]
end
end VW
set_option maxHeartbeats 4000000
set_option maxHeartbeats 4000000
set_option maxHeartbeats 4000000
set_option maxHeartbeats 4000000
set_option maxHeartbeats 4000000
set_option maxHeartbeats 4000000
set_option maxHeartbeats 4000000
set_option maxHeartbeats 4000000
set_option maxHeartbeats 4000000
set_option maxHeartbeats 4000000
set_option maxHeartbeats 4000000
set_option maxHeartbeats 4000000
set_option maxHeartbeats 4000000
namespace VW
open PySem PySem.Spec PyProof.Rows L2 R
def w_on_1:WS:=sIf (tVal (w2 (opEq false) (oVal (w2 opIx (oPk 1) (oVal (wC (.int 0))))) (oVal (wC (.int (-1))))))
 (sRet (oPk 1))
 (sNx)
def w_on_2 (C:Addr):WS:=sRet (oVal (wN zbr (zae (oFz (w2 opIx (oFld C 0 "numbers") (oVal (w2 opIx (oPk 1) (oVal (wC (.int 0))))))) (zae (oFz (w2 opIx (oPk 1) (oVal (wC (.int 1))))) (aNil)))))
def w_on (C:Addr):WS:=sSeq w_on_1 (w_on_2 C)
end VW
set_option maxHeartbeats 4000000
namespace VW
open PySem PySem.Spec PyProof.Rows L2 R
section
variable {e:En}
theorem k_asf {p:Nat} {f:Str} {C dx:Addr} {fs:List (Str×V×FM)} {u:V} {fm:FM} {as:List Opd} {k:List M->Prop} (h:e[p]?=some (some (.ob C dx fs))) (hl:fs.lookup f=some (u,fm)) (q:zbQ as e λms=>k (fm.m::ms)):zbQ (.fd p f u::as) e k:=znL h hl q
end
abbrev NS:Type:=List (Key×D)->D->D->D->D->D->D->D->D->R (D×List (Key×D))
end VW
set_option maxHeartbeats 4000000
set_option maxHeartbeats 4000000
set_option maxHeartbeats 4000000
set_option maxHeartbeats 4000000
set_option maxHeartbeats 4000000
namespace VW
open PySem PySem.Spec PyProof.Rows L2 R
theorem zrX {e:En} {p:Nat} {C dx:Addr} {fs:List (Str×V×FM)} {f:Str} {u:V} {d:D} {Q:M->En->Prop} {X:XQ} (h:e[p]?=some (some (.ob C dx fs))) (hl:fs.lookup f=some (u,.fz d)) (q:Q (.fz d) e):wOfz (oFld C p f) e Q X:=k_of (zmG h hl (znL h hl q))
theorem zn8 {K:PySem.W.Frag} {m qual:Str} {st:Stmt} {f:Addr} {fd:FuncData} (F:FunD K m qual (defArgs st) (defBody st) (defScope st) [] [] f fd):Fun K m qual st f fd:=by
 obtain ⟨oc,od,dV,kV,doc,pm,an,cdv,ct,osl,rfl,lk,hcd,hD,hK⟩:=F.ex
 rcases hD with ⟨_,rfl⟩ | ⟨e,_⟩
 ·exact ⟨⟨oc,od,kV,doc,pm,an,cdv,ct,osl,rfl,lk,hcd⟩,F.kp⟩
 ·exact absurd rfl e
end VW
set_option maxHeartbeats 4000000
set_option maxHeartbeats 4000000
set_option maxHeartbeats 4000000
set_option maxHeartbeats 4000000
set_option maxHeartbeats 4000000
set_option maxHeartbeats 4000000
set_option maxHeartbeats 4000000
set_option maxHeartbeats 4000000
set_option maxHeartbeats 4000000
set_option maxHeartbeats 4000000
set_option maxHeartbeats 4000000
set_option maxHeartbeats 4000000
namespace VW
open PySem PySem.Spec PyProof.Rows L2 R
def zkt:WS:=sRet (oVal (wLc (iSeq (wVar 0)) (.tp [.nm 2,.nm 3]) (zd5) (wMtO zv8 (oVal (w2 opIx (oPk 1) (oVal (wC (.int 1))))) (zae (oPk 2) (aNil))) [2,3]))
abbrev zn9:Type:=List D
@[irreducible] def zdD (stock_1:D) (net_1:D):R (zn9) :=
  R.bind (zcX stock_1) λds_1 =>
  R.bind (lcM (λd_1:D=>R.bind (nUn2 d_1) λp_1=>R.bind (nIx net_1 (.int 1)) λt_1=>R.bind (zts t_1) λu_1=>nTCn t_1 p_1.1) ds_1) λxs_1 =>
  .ok xs_1
abbrev zf4 (ms:List M) (Q:M->En->Prop) (X:Xn->Prop):Prop:=∃ (stock_1:D) (net_1:D),ms=[(.fz stock_1),(.fz net_1)]/\(zdD stock_1 net_1).post (λr=>Q (M.lst r) [none,none]) X
abbrev zdE:Fn:=⟨2,[],zf4⟩
theorem zk8:zbm zf4:=λms Q Q' X X' hq hx ⟨stock_1,net_1,e,h⟩=>⟨stock_1,net_1,e,zay h (λ_ h=>hq _ _ h) hx⟩
theorem zpm (ms:List M) (Q:M->En->Prop) (X:Xn->Prop) (h:zf4 ms Q X):wFn 4 2 [] zkt ms Q X:=by
 obtain ⟨stock_1,net_1,rfl,h⟩:=h
 unfold zdD at h
 refine zbk (e0:=[some (.fz stock_1),some (.fz net_1),none,none]) rfl λE hrt hnx hx => ?_
 refine za1 @(k_lc @(zdy @(zam rfl @(zcV h λds_1 h=>zg7 h (λd_1 S KK hk h=>zbF h λp_1 h=>zaB @(g_nm @(zaB @(g_nm @(zdB @(k_wmtO @(zag @(k_w2 @(k_pk rfl @(zag @(k_c @(k_wp rfl @(k_wv @(k_ix h λt_1 h=>k_tupo h λhty h=>⟨k_wv (hty),k_ac @(k_pk rfl @(k_an @(k_wv @(zbn rfl @(zak @(k_tcn (tl h) λt_2 h=>hk _ _ rfl h))))))⟩)))))))))))))) λxs_1 h=>hrt _ _ h))))
def zlI:WS:=sSet 2 (wN zbR (aNil))
def zmV:WS:=sSet 5 (zaI zdE (zae (oFz (wVar 0)) (zae (oFz (wVar 4)) (aNil))))
def zeh:WS:=zee (wMut "list" za8 2 (zae (oFz (wLc (iEn (zaI zdE (zae (oFz (wVar 0)) (zae (oFz (wVar 3)) (aNil))))) (.tp [.nm 6,.nm 7]) (zd5) (w2 zk5 (oPk 7) (oVal (w2 opIx (oPk 5) (oPk 6)))) [6,7])) (aNil)))
def zku:WS:=sSeq (zmV) (zeh)
def ziu:WS:=sFor (iSeq (wVar 1)) (.tp [.nm 3,.nm 4])
 (zku)
def zep:WS:=sRet (oPk 2)
def zqH:WS:=sSeq (zlI) (sSeq (ziu) (zep))
abbrev zua:Type:=List D
def zfA (stock_1:D) (d_1:D) (s_1:List D):R (List D) :=
 R.bind (nUn2 d_1) λp_1 =>
 R.bind (zdD stock_1 p_1.2) λt_1 =>
 R.bind (zdD stock_1 p_1.1) λt_2 =>
 R.bind (lcM (λd_2:D=>R.bind (nUn2 d_2) λp_2=>R.bind (nIx (.lst t_1) p_2.1) λt_3=>nSub p_2.2 t_3) (enD t_2)) λxs_1 =>
 R.bind (nApp s_1 (.lst xs_1)) λfound_1 =>
 .ok found_1
@[irreducible] def zgB (stock_1:D) (rules_1:D):R (zua) :=
  R.bind (zcX rules_1) λds_1 =>
  R.bind (R.forS (zfA stock_1) ds_1 ([]:List D)) λs_2 =>
  .ok s_2
abbrev zkv (ms:List M) (Q:M->En->Prop) (X:Xn->Prop):Prop:=∃ (stock_1:D) (rules_1:D),ms=[(.fz stock_1),(.fz rules_1)]/\(zgB stock_1 rules_1).post (λr=>Q (M.lst r) [none,none]) X
abbrev zjy:Fn:=⟨2,[],zkv⟩
theorem zpn:zbm zkv:=λms Q Q' X X' hq hx ⟨stock_1,rules_1,e,h⟩=>⟨stock_1,rules_1,e,zay h (λ_ h=>hq _ _ h) hx⟩
theorem zwA (ms:List M) (Q:M->En->Prop) (X:Xn->Prop) (h:zkv ms Q X):wFn 8 2 [] zqH ms Q X:=by
 obtain ⟨stock_1,rules_1,rfl,h⟩:=h
 unfold zgB at h
 refine zbk (e0:=[some (.fz stock_1),some (.fz rules_1),none,none,none,none,none,none]) rfl λE hrt hnx hx => ?_
 show (sSeq zlI (sSeq ziu (zep))) _ _
 refine zar @(zaP @(k_wN @(k_an @(zak @(zcA rfl rfl (?_))))))
 show (sSeq ziu (zep)) _ [some (.fz stock_1),some (.fz rules_1),some (.lst ([]:List D)),none,none,none,none,none]
 refine zar @(zfc @(zdy @(zam rfl @(zcV h λds_1 h=>zcf (λ(s_1:List D) (j_1:Option M×Option M×Option M)=>[some (.fz stock_1),some (.fz rules_1),some (.lst s_1),j_1.1,j_1.2.1,j_1.2.2,none,none]) ?_ ?_ _ ([]:List D) (none,none,none) h))))
 ·intro d_1 s_1 j_1 N S hn h
  refine zbF h λp_1 h=>zaB @(g_nm @(zaB @(g_nm @(zdB (?_)))))
  show zku _ [some (.fz stock_1),some (.fz rules_1),some (.lst s_1),some (.fz p_1.1),some (.fz p_1.2),j_1.2.2,none,none]
  refine zar @(zaP @(zas (fn:=zdE) @(k_ac @(k_fz @(zam rfl @(k_ac @(k_fz @(zam rfl @(k_an @(zau @(zau @(zaJ ⟨rfl,_,_,rfl,zaq h (λt_1 h => ?_) (λx z=>hx x _ z)⟩))))))))))))
  try with_reducible show zeh _ _
  show zeh _ [some (.fz stock_1),some (.fz rules_1),some (.lst s_1),some (.fz p_1.1),some (.fz p_1.2),some (.lst t_1),none,none]
  refine zcB @(zeE rfl rfl @(k_ac @(k_fz @(k_lc @(zmA @(zas (fn:=zdE) @(k_ac @(k_fz @(zam rfl @(k_ac @(k_fz @(zam rfl @(k_an @(zau @(zau @(zaJ ⟨rfl,_,_,rfl,zaq h (λt_2 h=>k_enD rfl @(zg7 h (λd_2 S KK hk h=>zbF h λp_2 h=>zaB @(g_nm @(zaB @(g_nm @(zdB @(k_w2 @(k_pk rfl @(zag @(k_w2 @(k_pk rfl @(k_pk rfl @(k_wp rfl @(k_wp rfl @(k_ix h λt_3 h=>k_wp rfl @(k_wv @(znC (tl h) λt_4 h=>hk _ _ rfl h)))))))))))))))) λxs_1 h=>k_an @(zeF rfl rfl @(zao @(zak @(zfZ h λfound_1 h => ?_)))))) (λx z=>hx x _ z)⟩))))))))))))))))
  exact hn found_1 ((some (.fz p_1.1)),(some (.fz p_1.2)),(some (.lst t_1))) h
 ·intro s_2 j_2 h
  try with_reducible show zep _ _
  show zep _ [some (.fz stock_1),some (.fz rules_1),some (.lst s_2),j_2.1,j_2.2.1,j_2.2.2,none,none]
  refine ziT rfl (?_)
  exact hrt _ _ h
def zkw:WS:=sSet 1 (wC (.int 0))
def zk9:WS:=sSet 3 (wN zyL (zae (oPk 2) (aNil)))
def zf5:WS:=sAsg (.tp [.nm 1,.nm 3]) (wN zbr (zae (oFz (wVar 3)) (zae (oFz (w2 zns (oPk 1) (oPk 3))) (aNil))))
def zdP:WS:=zhv (tVal (w2 (opEq true) (oPk 3) (oVal (wC (.int 0)))))
 (zf5)
def ziW:WS:=sSeq (zk9) (zdP)
def zhc:WS:=sFor (iSeq (wVar 0)) (.nm 2)
 (ziW)
def zdF:WS:=sRet (oPk 1)
def zoa:WS:=sSeq (zkw) (sSeq (zhc) (zdF))
abbrev zrY:Type:=D
def zba {ρ:Type} (s_2:D×D) (K A:(D×D)->R ρ):R ρ :=
 R.bind (nEq true s_2.2 (.int 0)) λt_2 =>
 if t_2=true then
 R.bind (nMod s_2.1 s_2.2) λt_3 =>
 R.bind (nUn2 (.tup [s_2.2,t_3])) λp_1 =>
 K (p_1.1,p_1.2)
 else A s_2
def zc0 (d_1:D) (s_1:D):R (D) :=
 R.bind (zyN d_1) λt_1 =>
 R.whileN (zba) (λ(s_3:D×D) =>
 .ok s_3.1) most (s_1,t_1)
@[irreducible] def zdi (numbers_1:D):R (zrY) :=
  R.bind (zcX numbers_1) λds_1 =>
  R.bind (R.forS (zc0) ds_1 (.int 0)) λs_4 =>
  .ok s_4
abbrev ziv (ms:List M) (Q:M->En->Prop) (X:Xn->Prop):Prop:=∃ (numbers_1:D),ms=[(.fz numbers_1)]/\(zdi numbers_1).post (λr=>Q (M.fz r) [none]) X
abbrev zeJ:Fn:=⟨1,[],ziv⟩
theorem zob:zbm ziv:=λms Q Q' X X' hq hx ⟨numbers_1,e,h⟩=>⟨numbers_1,e,zay h (λ_ h=>hq _ _ h) hx⟩
theorem zub (ms:List M) (Q:M->En->Prop) (X:Xn->Prop) (h:ziv ms Q X):wFn 4 1 [] zoa ms Q X:=by
 obtain ⟨numbers_1,rfl,h⟩:=h
 unfold zdi at h
 refine zbk (e0:=[some (.fz numbers_1),none,none,none]) rfl λE hrt hnx hx => ?_
 show (sSeq zkw (sSeq zhc (zdF))) _ _
 refine zar @(zaP @(k_c (?_)))
 show (sSeq zhc (zdF)) _ [some (.fz numbers_1),some (.fz (.int 0)),none,none]
 refine zar @(zfc @(zdy @(zam rfl @(zcV h λds_1 h=>zcf (λ(s_1:D) (j_1:Option M×Option M)=>[some (.fz numbers_1),some (.fz s_1),j_1.1,j_1.2]) ?_ ?_ _ (.int 0) (none,none) h))))
 ·intro d_1 s_1 j_1 N S hn h
  refine g_nm (?_)
  show ziW _ [some (.fz numbers_1),some (.fz s_1),some (.fz d_1),j_1.2]
  refine zar @(zaP @(k_wN @(k_ac @(k_pk rfl @(k_an @(zbn rfl @(zak @(k_abs1 h λt_1 h => ?_))))))))
  try with_reducible show zdP _ _
  show zdP _ [some (.fz numbers_1),some (.fz s_1),some (.fz d_1),some (.fz t_1)]
  refine zhH (λ(s_2:D×D) (j_2:Unit)=>[some (.fz numbers_1),some (.fz s_2.1),some (.fz d_1),some (.fz s_2.2)]) (λs_3 j_3 h => ?_) (λha => ?_) most (s_1,t_1) () h
  ·exact hn s_3.1 ((some (.fz d_1)),(some (.fz s_3.2))) h
  ·intro s_2 j_2 N K hn h
   refine zaN @(k_w2 @(k_pk rfl @(zag @(k_c @(k_wp rfl @(k_wv @(k_eq h λt_2 h=>j_tv @(zs6 h (λh => ?_) (λh => ?_)))))))))
   ·show zf5 _ [some (.fz numbers_1),some (.fz s_2.1),some (.fz d_1),some (.fz s_2.2)]
    refine zs4 @(k_wN @(k_ac @(k_fz @(zam rfl @(k_ac @(k_fz @(k_w2 @(k_pk rfl @(k_pk rfl @(k_wp rfl @(k_wp rfl @(zrs h λt_3 h=>k_an @(zao @(zao @(zak @(zce rfl rfl @(zbF h λp_1 h=>zaB @(g_nm @(zaB @(g_nm @(zdB (?_))))))))))))))))))))))
    exact hn (p_1.1,p_1.2) () h
   ·exact ha s_2 j_2 h
 ·intro s_4 j_4 h
  try with_reducible show zdF _ _
  show zdF _ [some (.fz numbers_1),some (.fz s_4),j_4.1,j_4.2]
  refine ziT rfl (?_)
  exact hrt _ _ h
def zkx:WS:=sSet 3 (wLc (iZp (wVar 0) (wVar 1)) (.tp [.nm 5,.nm 6]) (zd5) (w2 zk5 (oVal (w2 zlB (oPk 5) (oVal (w2 opIx (oPk 1) (oPk 2))))) (oVal (w2 zlB (oPk 6) (oVal (w2 opIx (oPk 0) (oPk 2)))))) [5,6])
def zhd:WS:=sSet 4 (wN (opMx imax) (zae (oVal (wC (.int 1))) (zae (oVal (zaI zeJ (zae (oFz (wVar 3)) (aNil)))) (aNil))))
def zdG:WS:=sRet (oVal (wLc (iSeq (wVar 3)) (.nm 7) (zd5) (w2 znS (oPk 7) (oPk 4)) [7]))
def zoc:WS:=sSeq (zkx) (sSeq (zhd) (zdG))
abbrev zrZ:Type:=List D
@[irreducible] def zcD (row_1:D) (pivot_1:D) (column_1:D):R (zrZ) :=
  R.bind (nZip row_1 pivot_1) λds_1 =>
  R.bind (lcM (λd_1:D=>R.bind (nUn2 d_1) λp_1=>R.bind (nIx pivot_1 column_1) λt_1=>R.bind (zgL p_1.1 t_1) λt_2=>R.bind (nIx row_1 column_1) λt_3=>R.bind (zgL p_1.2 t_3) λt_4=>nSub t_2 t_4) ds_1) λxs_1 =>
  R.bind (zdi (.lst xs_1)) λt_6 =>
  R.bind (nMx imax (.int 1) t_6) λt_7 =>
  R.bind (lcM (λd_2:D=>zim d_2 t_7) xs_1) λxs_2 =>
  .ok xs_2
abbrev ziw (ms:List M) (Q:M->En->Prop) (X:Xn->Prop):Prop:=∃ (row_1:D) (pivot_1:D) (column_1:D),ms=[(.fz row_1),(.fz pivot_1),(.fz column_1)]/\(zcD row_1 pivot_1 column_1).post (λr=>Q (M.lst r) [none,none,none]) X
abbrev zfn:Fn:=⟨3,[],ziw⟩
theorem zod:zbm ziw:=λms Q Q' X X' hq hx ⟨row_1,pivot_1,column_1,e,h⟩=>⟨row_1,pivot_1,column_1,e,zay h (λ_ h=>hq _ _ h) hx⟩
theorem zuc (ms:List M) (Q:M->En->Prop) (X:Xn->Prop) (h:ziw ms Q X):wFn 8 3 [] zoc ms Q X:=by
 obtain ⟨row_1,pivot_1,column_1,rfl,h⟩:=h
 unfold zcD at h
 refine zbk (e0:=[some (.fz row_1),some (.fz pivot_1),some (.fz column_1),none,none,none,none,none]) rfl λE hrt hnx hx => ?_
 show (sSeq zkx (sSeq zhd (zdG))) _ _
 refine zar @(zaP @(k_lc @(zyY @(zam rfl @(zam rfl @(zyZ h λds_1 h=>zg7 h (λd_1 S KK hk h=>zbF h λp_1 h=>zaB @(g_nm @(zaB @(g_nm @(zdB @(k_w2 @(zag @(k_w2 @(k_pk rfl @(zag @(k_w2 @(k_pk rfl @(k_pk rfl @(k_wp rfl @(k_wp rfl @(k_ix h λt_1 h=>k_wp rfl @(k_wv @(zqv h λt_2 h=>zag @(k_w2 @(k_pk rfl @(zag @(k_w2 @(k_pk rfl @(k_pk rfl @(k_wp rfl @(k_wp rfl @(k_ix h λt_3 h=>k_wp rfl @(k_wv @(zqv h λt_4 h=>k_wv @(k_wv @(znC (tl h) λt_5 h=>hk _ _ rfl h))))))))))))))))))))))))))))))) λxs_1 h => ?_))))))
 show (sSeq zhd (zdG)) _ [some (.fz row_1),some (.fz pivot_1),some (.fz column_1),some (.lst xs_1),none,none,none,none]
 refine zar @(zaP @(k_wN @(k_ac @(zag @(k_c @(k_ac @(zag @(zas (fn:=zeJ) @(k_ac @(k_fz @(zms rfl @(k_an @(zau @(zaJ ⟨rfl,_,rfl,zaq h (λt_6 h=>k_an @(zao @(zao @(zak @(k_mx h λt_7 h => ?_))))) (λx z=>hx x _ z)⟩))))))))))))))
 try with_reducible show zdG _ _
 show zdG _ [some (.fz row_1),some (.fz pivot_1),some (.fz column_1),some (.fz (.lst xs_1)),some (.fz t_7),none,none,none]
 refine za1 @(k_lc @(zdy @(zam rfl @(zyK rfl @(zg7 h (λd_2 S KK hk h=>g_nm @(k_w2 @(k_pk rfl @(k_pk rfl @(k_wp rfl @(k_wp rfl @(ztz (tl h) λt_8 h=>hk _ _ rfl h))))))) λxs_2 h=>hrt _ _ h)))))
end VW
set_option maxHeartbeats 4000000
namespace VW
open PySem PySem.Spec PyProof.Rows L2 R
abbrev tbl (C dx:Addr) (u:Nat->V) (w:D) (ls ow:List D) (g:D):M:=.ob C dx [("width",u 0,.fz w),("lines",u 1,.lst ls),("owners",u 2,.lst ow),("gains",u 3,.fz g)]
abbrev tblZ (C dx:Addr) (u:Nat->V) (w:D) (ls ow:List D) (g:D):M:=.ob C dx [("width",u 0,.fz w),("lines",u 1,.fz (.lst ls)),("owners",u 2,.fz (.lst ow)),("gains",u 3,.fz g)]
def uFour (a b c d:V):Nat->V
 | 0=>a | 1=>b | 2=>c | _=>d
def zud:WS:=sIf (tVal (w2 (zfW .gt) (oPk 2) (oVal (wC (.int 0)))))
 (sRet (oPk 1))
 (sNx)
def zxz (C:Addr):WS:=sFor (iEn (wOfz (oFld C 0 "gains"))) (.tp [.nm 1,.nm 2])
 (zud)
def zue:WS:=sRet (oVal (wC .non))
def w_tg (C:Addr):WS:=sSeq (zxz C) zue
def zky (d_1:D) (s_1:Unit) (K:Unit->R D):R D :=
 R.bind (nUn2 d_1) λp_1 =>
 R.bind (nOrd .gt p_1.2 (.int 0)) λt_1 =>
 if t_1=true then
 .ok p_1.1
 else
 K ()
@[irreducible] def n_tg (gains_1:D):R D :=
  R.bind (zmz gains_1) λds_1 =>
  R.forN zky (λ(s_2:Unit)=>.ok (.non)) ds_1 ()
abbrev zzt (C:Addr) (ms:List M) (Q:M->En->Prop) (X:Xn->Prop):Prop:=∃ (dx:Addr) (u:Nat->V) (w:D) (ls ow:List D) (g:D),ms=[tbl C dx u w ls ow g]/\(n_tg g).post (λr=>Q (M.fz r) [some (tbl C dx u w ls ow g)]) X
abbrev f_tg (C:Addr):Fn:=⟨1,[0],zzt C⟩
theorem zzu (C:Addr):zbm (zzt C):=λms Q Q' X X' hq hx ⟨dx,u,w,ls,ow,g,e,h⟩=>⟨dx,u,w,ls,ow,g,e,zay h (λ_ h=>hq _ _ h) hx⟩
theorem j_tg (C:Addr) (ms:List M) (Q:M->En->Prop) (X:Xn->Prop) (h:zzt C ms Q X):wFn 3 1 [0] (w_tg C) ms Q X:=by
 obtain ⟨dx,u,w,ls,ow,g,rfl,h⟩:=h
 unfold n_tg at h
 refine zbk (e0:=[some (tbl C dx u w ls ow g),none,none]) rfl λE hrt hnx hx => ?_
 show (sSeq (zxz C) zue) _ _
 refine zar (zfc (zmA (zrX rfl rfl (zls h λds_1 h=>zj3 (λ(s_1:Unit) (j_1:Option M×Option M)=>[some (tbl C dx u w ls ow g),j_1.1,j_1.2]) ?_ ?_ _ () (none,none) h))))
 ·intro d_1 s_1 j_1 N K hn h
  unfold zky at h
  refine zbF h λp_1 h=>zaB (g_nm (zaB (g_nm (zdB (?_)))))
  show zud _ [some (tbl C dx u w ls ow g),some (.fz p_1.1),some (.fz p_1.2)]
  refine zeT (zaN (k_w2 (k_pk rfl (zag (k_c (k_wp rfl (k_wv (zji h λt_1 h=>j_tv (zfb h (λh => ?_) (λh => ?_))))))))))
  ·refine ziT rfl (?_)
   exact hrt _ _ h
  ·refine k_nx ?_
   exact hn () ((some (.fz p_1.1)),(some (.fz p_1.2))) h
 ·intro s_2 j_2 h
  show zue _ [some (tbl C dx u w ls ow g),j_2.1,j_2.2]
  refine za1 (k_c (hrt _ _ h))
def zxA (C:Addr):WS:=sSet 2 (wLcF true C 0 "lines" (.tp [.nm 3,.nm 4]) (tVal (w2 (zfW .gt) (oVal (w2 opIx (oPk 4) (oPk 1))) (oVal (wC (.int 0))))) (wN zbr (zae (oFz (w2 opIx (oFld C 0 "owners") (oPk 3))) (zae (oFz (wVar 3)) (aNil)))) [3,4])
def zuf:WS:=sIf (tVal (w2 (opEq false) (oPk 2) (oVal (wN zbR (aNil)))))
 (sRet (oVal (wC .non)))
 (sNx)
def zqI:WS:=sRet (oVal (w2 opIx (oVal (wN ztv (zae (oPk 2) (aNil)))) (oVal (wC (.int 1)))))
def w_tv (C:Addr):WS:=sSeq (zxA C) (sSeq zuf zqI)
@[irreducible] def n_tv (lines_1 owners_1:List D) (column_1:D):R D :=
  R.bind (lcF (λd_1:D=>R.bind (nUn2 d_1) λp_1 =>
  R.bind (nIx p_1.2 column_1) λt_1 =>
  R.bind (nOrd .gt t_1 (.int 0)) λt_2 =>
  if t_2=true then (R.bind (nIx (.lst owners_1) p_1.1) λt_3=>.ok ((some (.tup [t_3,p_1.1]))):R (Option D)) else .ok none) (enD lines_1)) λxs_1 =>
  R.bind (nEq false (.lst xs_1) (.lst ([]:List D))) λt_4 =>
  if t_4=true then
  .ok (.non)
  else
  R.bind (zrH (.lst xs_1)) λt_5 =>
  R.bind (nIx t_5 (.int 1)) λt_6 =>
  .ok t_6
abbrev zzv (C:Addr) (ms:List M) (Q:M->En->Prop) (X:Xn->Prop):Prop:=∃ (dx:Addr) (u:Nat->V) (w:D) (ls ow:List D) (g column_1:D),ms=[tbl C dx u w ls ow g,.fz column_1]/\(n_tv ls ow column_1).post (λr=>Q (M.fz r) [some (tbl C dx u w ls ow g),none]) X
abbrev f_tv (C:Addr):Fn:=⟨2,[0],zzv C⟩
theorem zzw (C:Addr):zbm (zzv C):=λms Q Q' X X' hq hx ⟨dx,u,w,ls,ow,g,c,e,h⟩=>⟨dx,u,w,ls,ow,g,c,e,zay h (λ_ h=>hq _ _ h) hx⟩
theorem j_tv2 (C:Addr) (ms:List M) (Q:M->En->Prop) (X:Xn->Prop) (h:zzv C ms Q X):wFn 5 2 [0] (w_tv C) ms Q X:=by
 obtain ⟨dx,u,w,ls,ow,g,column_1,rfl,h⟩:=h
 unfold n_tv at h
 refine zbk (e0:=[some (tbl C dx u w ls ow g),some (.fz column_1),none,none,none]) rfl λE hrt hnx hx => ?_
 show (sSeq (zxA C) (sSeq zuf zqI)) _ _
 refine zar (zaP (k_lcF (ds:=enD ls) rfl rfl rfl ?_))
 refine zo9 h (λd_1 S KK K0 hk h0 h=>zbF h λp_1 h=>zaB (g_nm (zaB (g_nm (zdB (zpa (zaN (k_w2 (zag (k_w2 (k_pk rfl (k_pk rfl (k_wp rfl (k_wp rfl (k_ix h λt_1 h=>zag (k_c (k_wv (k_wv (zji h λt_2 h=>j_tv (zpb h (λh=>k_wN (k_ac (k_fz (k_w2 (zmG rfl rfl (k_pk rfl (znL rfl rfl (k_wp rfl (k_ix h λt_3 h=>k_ac (k_fz (zam rfl (k_an (zao (zao (zak (zce rfl rfl (hk _ _ rfl h))))))))))))))))) (λh=>h0 _ rfl h))))))))))))))))))))) λxs_1 h=>k_lcFK rfl rfl ?_
 show (sSeq zuf zqI) _ [some (tbl C dx u w ls ow g),some (.fz column_1),some (.lst xs_1),none,none]
 refine zar (zeT (zaN (k_w2 (k_pk rfl (zag (k_wN (k_an (zak (zcA rfl rfl (k_wp rfl (k_wv (k_eq h λt_4 h=>j_tv (zfb h (λh => ?_) (λh => ?_))))))))))))))
 ·refine za1 (k_c (hrt _ _ h))
 ·refine k_nx ?_
  show zqI _ [some (tbl C dx u w ls ow g),some (.fz column_1),some (.lst xs_1),none,none]
  refine za1 (k_w2 (zag (k_wN (k_ac (k_pk rfl (k_an (zbn rfl (zak (k_minP h λt_5 h=>zag (k_c (k_wv (k_wv (k_ix h λt_6 h=>hrt _ _ h)))))))))))))
def zxB (C:Addr):WS:=sSet 3 (w2 opIx (oFld C 0 "lines") (oPk 1))
def zug (C:Addr):WS:=sIf (tVal (w2 (opEq true) (oPk 4) (oPk 1)))
 (zrx opSt C 0 "lines" (oPk 4) (zaI zfn (zae (oFz (wVar 5)) (zae (oFz (wVar 3)) (zae (oFz (wVar 2)) (aNil))))))
 (sNx)
def zuh (C:Addr):WS:=sFor (iEn (wN zlo (zae (oFld C 0 "lines") (aNil)))) (.tp [.nm 4,.nm 5])
 (zug C)
def zqJ (C:Addr):WS:=zmE C 0 "gains" (wFz (zaI zfn (zae (oFz (wOfz (oFld C 0 "gains"))) (zae (oFz (wVar 3)) (zae (oFz (wVar 2)) (aNil))))))
def zoe (C:Addr):WS:=zrx opSt C 0 "owners" (oPk 1) (wVar 2)
def w_tt (C:Addr):WS:=sSeq (zxB C) (sSeq (zuh C) (sSeq (zqJ C) (zoe C)))
def zkz (k_1:D) (t_1:D) (column_1:D) (d_1:D) (s_1:List D):R (List D) :=
 R.bind (nUn2 d_1) λp_1 =>
 R.bind (nEq true p_1.1 k_1) λt_3 =>
 if t_3=true then
 R.bind (zcD p_1.2 t_1 column_1) λt_4 =>
 R.bind (nStL s_1 p_1.1 (.lst t_4)) λlines_2 =>
 .ok lines_2
 else
 .ok s_1
@[irreducible] def n_tt (lines_1:List D) (owners_1:List D) (gains_1:D) (k_1:D) (column_1:D):R (List D×List D×List D) :=
  R.bind (nIx (.lst lines_1) k_1) λt_1 =>
  R.bind (zro (.lst lines_1)) λt_2 =>
  R.bind (R.forS (zkz k_1 t_1 column_1) (enD t_2) lines_1) λs_2 =>
  R.bind (zcD gains_1 t_1 column_1) λt_5 =>
  R.bind (nStL owners_1 k_1 column_1) λowners_2 =>
  .ok (t_5,s_2,owners_2)
abbrev zzx (C:Addr) (ms:List M) (Q:M->En->Prop) (X:Xn->Prop):Prop:=∃ (dx:Addr) (u:Nat->V) (w:D) (ls ow:List D) (g k_1 column_1:D),ms=[tbl C dx u w ls ow g,.fz k_1,.fz column_1] /\
 (n_tt ls ow g k_1 column_1).post (λr=>∀ u:Nat->V,Q (M.fz .non) [some (tbl C dx u w r.2.1 r.2.2 (.lst r.1)),none,none]) X
abbrev f_tt (C:Addr):Fn:=⟨3,[0],zzx C⟩
theorem zzy (C:Addr):zbm (zzx C):=λms Q Q' X X' hq hx ⟨dx,u,w,ls,ow,g,k,c,e,h⟩=>⟨dx,u,w,ls,ow,g,k,c,e,zay h (λ_ h u=>hq _ _ (h u)) hx⟩
theorem j_tt (C:Addr) (ms:List M) (Q:M->En->Prop) (X:Xn->Prop) (h:zzx C ms Q X):wFn 6 3 [0] (w_tt C) ms Q X:=by
 obtain ⟨dx,u,w,ls,ow,g,k_1,column_1,rfl,h⟩:=h
 unfold n_tt at h
 refine zbk (e0:=[some (tbl C dx u w ls ow g),some (.fz k_1),some (.fz column_1),none,none,none]) rfl λE hrt hnx hx => ?_
 show (sSeq (zxB C) (sSeq (zuh C) (sSeq (zqJ C) (zoe C)))) _ _
 refine zar (zaP (k_w2 (zmG rfl rfl (k_pk rfl (znL rfl rfl (k_wp rfl (k_ix h λt_1 h => ?_)))))))
 show (sSeq (zuh C) (sSeq (zqJ C) (zoe C))) _ [some (tbl C dx u w ls ow g),some (.fz k_1),some (.fz column_1),some (.fz t_1),none,none]
 refine zar (zfc (zmA (k_wN (k_ac (zmG rfl rfl (k_an (k_asf rfl rfl (zak (zs2 h λt_2 h=>zcf (λ(s_1:List D) (j_1:Option M×Option M)=>[some (tbl C dx u w s_1 ow g),some (.fz k_1),some (.fz column_1),some (.fz t_1),j_1.1,j_1.2]) ?_ ?_ _ ls (none,none) h)))))))))
 ·intro d_1 s_1 j_1 N S hn h
  unfold zkz at h
  refine zbF h λp_1 h=>zaB (g_nm (zaB (g_nm (zdB (?_)))))
  show zug C _ [some (tbl C dx u w s_1 ow g),some (.fz k_1),some (.fz column_1),some (.fz t_1),some (.fz p_1.1),some (.fz p_1.2)]
  refine zeT (zaN (k_w2 (k_pk rfl (k_pk rfl (k_wp rfl (k_wp rfl (k_eq h λt_3 h=>j_tv (zfb h (λh => ?_) (λh => ?_)))))))))
  ·refine k_sbF (zas (fn:=zfn) (k_ac (k_fz (zam rfl (k_ac (k_fz (zam rfl (k_ac (k_fz (zam rfl (k_an (zau (zau (zau (zaJ ⟨rfl,_,_,_,rfl,zaq h (λt_4 h=>k_sbQ rfl rfl (k_pk rfl (zxp rfl rfl rfl (k_wp rfl (zs3 h λlines_2 h=>k_sbK rfl ?_))))) (λx z=>hx x _ z)⟩)))))))))))))))
   exact hn lines_2 ((some (.fz p_1.1)),(some (.fz p_1.2))) h
  ·refine k_nx ?_
   exact hn s_1 ((some (.fz p_1.1)),(some (.fz p_1.2))) h
 ·intro s_2 j_3 h
  show (sSeq (zqJ C) (zoe C)) _ [some (tbl C dx u w s_2 ow g),some (.fz k_1),some (.fz column_1),some (.fz t_1),j_3.1,j_3.2]
  refine zar (ztj (k_fz1 (zas (fn:=zfn) (k_ac (k_fz (zrX rfl rfl (k_ac (k_fz (zam rfl (k_ac (k_fz (zam rfl (k_an (zau (zau (zau (zaJ ⟨rfl,_,_,_,rfl,zaq h (λt_5 h=>znM rfl (by show 4<1000; decide) rfl λu3 => ?_) (λx z=>hx x _ z)⟩)))))))))))))))))
  show zoe C _ [some (.ob C dx [("width",u 0,.fz w),("lines",u 1,.lst s_2),("owners",u 2,.lst ow),("gains",u3,.fz (.lst t_5))]),some (.fz k_1),some (.fz column_1),some (.fz t_1),j_3.1,j_3.2]
  refine k_sbF (zam rfl (k_sbQ rfl rfl (k_pk rfl (zxp rfl rfl rfl (k_wp rfl (zs3 h λowners_2 h=>k_sbK rfl ?_))))))
  exact hnx _ (h (uFour (u 0) (u 1) (u 2) u3))
end VW
set_option maxHeartbeats 4000000
namespace VW
open PySem PySem.Spec PyProof.Rows L2 R
def zxC:WS:=sSet 2 (wC (.int 1))
def zui (C:Addr):WS:=sSet 5 (w2 opIx (oPk 4) (oVal (w2 opIx (oFld C 0 "owners") (oPk 3))))
def zof:WS:=sSet 2 (w2 znS (oVal (w2 zlB (oPk 2) (oPk 5))) (oVal (zaI zeJ (zae (oFz (wN zbR (zae (oFz (wVar 2)) (zae (oFz (wVar 5)) (aNil))))) (aNil)))))
def zuj (C:Addr):WS:=sSeq (zui C) (zof)
def zuk (C:Addr):WS:=sFor (iEn (wOfz (oFld C 0 "lines"))) (.tp [.nm 3,.nm 4])
 (zuj C)
def zqK (C:Addr):WS:=sSet 6 (w2 ze8 (oVal (wKl [.int 0])) (oVal (wN zcc (zae (oFld C 0 "gains") (aNil)))))
def zog:WS:=sSub opSt 6 (oPk 1) (wVar 2)
def zul (C:Addr):WS:=sSub opSt 6 (oVal (w2 opIx (oFld C 0 "owners") (oPk 3))) (w2 zk5 (oVal (wC (.int 0))) (oVal (w2 zlB (oVal (w2 opIx (oPk 4) (oPk 1))) (oVal (w2 znS (oPk 2) (oVal (w2 opIx (oPk 4) (oVal (w2 opIx (oFld C 0 "owners") (oPk 3))))))))))
def zlJ (C:Addr):WS:=sFor (iEn (wOfz (oFld C 0 "lines"))) (.tp [.nm 3,.nm 4])
 (zul C)
def zkA (C:Addr):WS:=sRet (oVal (wN zde (zae (oVal (wSl opSl (oPk 6) (pNo) (pInt (wOfz (oFld C 0 "width"))))) (aNil))))
def w_tm (C:Addr):WS:=sSeq (zxC) (sSeq (zuk C) (sSeq (zqK C) (sSeq (zog) (sSeq (zlJ C) (zkA C)))))
def zkB (owners_1:D) (d_1:D) (s_1:D):R (D) :=
 R.bind (nUn2 d_1) λp_1 =>
 R.bind (nIx owners_1 p_1.1) λt_1 =>
 R.bind (nIx p_1.2 t_1) λt_2 =>
 R.bind (zgL s_1 t_2) λt_3 =>
 R.bind (zdi (.lst [s_1,t_2])) λt_4 =>
 R.bind (zim t_3 t_4) λt_5 =>
 .ok t_5
def zkC (column_1:D) (owners_1:D) (s_2:D) (d_2:D) (s_3:List D):R (List D) :=
 R.bind (nUn2 d_2) λp_2 =>
 R.bind (nIx p_2.2 column_1) λt_8 =>
 R.bind (nIx owners_1 p_2.1) λt_9 =>
 R.bind (nIx p_2.2 t_9) λt_10 =>
 R.bind (zim s_2 t_10) λt_11 =>
 R.bind (zgL t_8 t_11) λt_12 =>
 R.bind (nSub (.int 0) t_12) λt_13 =>
 R.bind (nIx owners_1 p_2.1) λt_14 =>
 R.bind (nStL s_3 t_14 t_13) λfound_2 =>
 .ok found_2
@[irreducible] def n_tm (lines_1:List D) (owners_1:List D) (gains_1:D) (width_1:D) (column_1:D):R D :=
  R.bind (zmz (.lst lines_1)) λds_1 =>
  R.bind (R.forS (zkB (.lst owners_1)) ds_1 (.int 1)) λs_2 =>
  R.bind (nLen gains_1) λt_6 =>
  R.bind (zrL (.lst [.int 0]) t_6) λt_7 =>
  R.bind (nStL t_7 column_1 s_2) λfound_1 =>
  R.bind (zmz (.lst lines_1)) λds_2 =>
  R.bind (R.forS (zkC column_1 (.lst owners_1) s_2) ds_2 found_1) λs_4 =>
  R.bind (nInt width_1) λi_1 =>
  R.bind (nSl (.lst s_4) none (some i_1)) λt_15 =>
  R.bind (zcy t_15.d) λt_16 =>
  .ok t_16
abbrev zzz (C:Addr) (ms:List M) (Q:M->En->Prop) (X:Xn->Prop):Prop:=∃ (dx:Addr) (u:Nat->V) (w:D) (ls ow:List D) (g column_1:D),ms=[tblZ C dx u w ls ow g,.fz column_1]/\(n_tm ls ow g w column_1).post (λr=>Q (M.fz r) [some (tblZ C dx u w ls ow g),none]) X
abbrev f_tm (C:Addr):Fn:=⟨2,[0],zzz C⟩
theorem zzA (C:Addr):zbm (zzz C):=λms Q Q' X X' hq hx ⟨dx,u,w,ls,ow,g,c,e,h⟩=>⟨dx,u,w,ls,ow,g,c,e,zay h (λ_ h=>hq _ _ h) hx⟩
theorem j_tm (C:Addr) (ms:List M) (Q:M->En->Prop) (X:Xn->Prop) (h:zzz C ms Q X):wFn 7 2 [0] (w_tm C) ms Q X:=by
 obtain ⟨dx,u,w,ls,ow,g,column_1,rfl,h⟩:=h
 unfold n_tm at h
 refine zbk (e0:=[some (tblZ C dx u w ls ow g),some (.fz column_1),none,none,none,none,none]) rfl λE hrt hnx hx => ?_
 show (sSeq zxC (sSeq (zuk C) (sSeq (zqK C) (sSeq zog (sSeq (zlJ C) (zkA C)))))) _ _
 refine zar (zaP (k_c (?_)))
 show (sSeq (zuk C) (sSeq (zqK C) (sSeq zog (sSeq (zlJ C) (zkA C))))) _ [some (tblZ C dx u w ls ow g),some (.fz column_1),some (.fz (.int 1)),none,none,none,none]
 refine zar (zfc (zmA (zrX rfl rfl (zls h λds_1 h=>zcf (λ(s_1:D) (j_1:Option M×Option M×Option M)=>[some (tblZ C dx u w ls ow g),some (.fz column_1),some (.fz s_1),j_1.1,j_1.2.1,j_1.2.2,none]) ?_ ?_ _ (.int 1) (none,none,none) h))))
 ·intro d_1 s_1 j_1 N S hn h
  unfold zkB at h
  refine zbF h λp_1 h=>zaB (g_nm (zaB (g_nm (zdB (?_)))))
  show zuj C _ [some (tblZ C dx u w ls ow g),some (.fz column_1),some (.fz s_1),some (.fz p_1.1),some (.fz p_1.2),j_1.2.2,none]
  refine zar (zaP (k_w2 (k_pk rfl (zag (k_w2 (zmG rfl rfl (k_pk rfl (znL rfl rfl (k_wp rfl (k_ix h λt_1 h=>k_wp rfl (k_wv (k_ix h λt_2 h => ?_))))))))))))
  show zof _ [some (tblZ C dx u w ls ow g),some (.fz column_1),some (.fz s_1),some (.fz p_1.1),some (.fz p_1.2),some (.fz t_2),none]
  refine zaP (k_w2 (zag (k_w2 (k_pk rfl (k_pk rfl (k_wp rfl (k_wp rfl (zqv h λt_3 h=>zag (zas (fn:=zeJ) (k_ac (k_fz (zka (λQ hq=>k_wN (k_ac (k_fz (zam rfl (k_ac (k_fz (zam rfl (k_an (zao (zao (zak (zcA rfl rfl hq)))))))))))) (k_an (zau (zaJ ⟨rfl,_,rfl,zaq h (λt_4 h=>k_wv (k_wv (ztz h λt_5 h => ?_))) (λx z=>hx x _ z)⟩)))))))))))))))
  exact hn t_5 ((some (.fz p_1.1)),(some (.fz p_1.2)),(some (.fz t_2))) h
 ·intro s_2 j_2 h
  show (sSeq (zqK C) (sSeq zog (sSeq (zlJ C) (zkA C)))) _ [some (tblZ C dx u w ls ow g),some (.fz column_1),some (.fz s_2),j_2.1,j_2.2.1,j_2.2.2,none]
  refine zar (zaP (k_w2 (zag (k_kl (zag (k_wN (k_ac (zmG rfl rfl (k_an (k_asf rfl rfl (zak (zcz h λt_6 h=>k_wv (k_wv (ztA h λt_7 h => ?_))))))))))))))
  show (sSeq zog (sSeq (zlJ C) (zkA C))) _ [some (tblZ C dx u w ls ow g),some (.fz column_1),some (.fz s_2),j_2.1,j_2.2.1,j_2.2.2,some (.lst t_7)]
  refine zar (znD (zam rfl (znE rfl (k_pk rfl (znF rfl rfl (k_wp rfl (zs3 h λfound_1 h => ?_)))))))
  show (sSeq (zlJ C) (zkA C)) _ [some (tblZ C dx u w ls ow g),some (.fz column_1),some (.fz s_2),j_2.1,j_2.2.1,j_2.2.2,some (.lst found_1)]
  refine zar (zfc (zmA (zrX rfl rfl (zls h λds_2 h=>zcf (λ(s_3:List D) (j_3:Option M×Option M)=>[some (tblZ C dx u w ls ow g),some (.fz column_1),some (.fz s_2),j_3.1,j_3.2,j_2.2.2,some (.lst s_3)]) ?_ ?_ _ found_1 (j_2.1,j_2.2.1) h))))
  ·intro d_2 s_3 j_3 N S hn h
   unfold zkC at h
   refine zbF h λp_2 h=>zaB (g_nm (zaB (g_nm (zdB (?_)))))
   show zul C _ [some (tblZ C dx u w ls ow g),some (.fz column_1),some (.fz s_2),some (.fz p_2.1),some (.fz p_2.2),j_2.2.2,some (.lst s_3)]
   refine znD (k_w2 (zag (k_c (zag (k_w2 (zag (k_w2 (k_pk rfl (k_pk rfl (k_wp rfl (k_wp rfl (k_ix h λt_8 h=>zag (k_w2 (k_pk rfl (zag (k_w2 (k_pk rfl (zag (k_w2 (zmG rfl rfl (k_pk rfl (znL rfl rfl (k_wp rfl (k_ix h λt_9 h=>k_wp rfl (k_wv (k_ix h λt_10 h=>k_wp rfl (k_wv (ztz h λt_11 h=>k_wv (k_wv (zqv h λt_12 h=>k_wv (k_wv (znC h λt_13 h=>znE rfl (zag (k_w2 (zmG rfl rfl (k_pk rfl (znL rfl rfl (k_wp rfl (k_ix h λt_14 h=>znF rfl rfl (k_wv (zs3 h λfound_2 h => ?_)))))))))))))))))))))))))))))))))))))))))
   exact hn found_2 ((some (.fz p_2.1)),(some (.fz p_2.2))) h
  ·intro s_4 j_4 h
   show zkA C _ [some (tblZ C dx u w ls ow g),some (.fz column_1),some (.fz s_2),j_4.1,j_4.2,j_2.2.2,some (.lst s_4)]
   refine za1 (k_wN (k_ac (zag (zmt (k_pk rfl (zmu (zhE (zrX rfl rfl (zhF h λi_1 h=>k_wp rfl (k_sl h λt_15 h=>k_an (zao (zak (zeD h λt_16 h=>hrt _ _ h)))))))))))))
def zxD (C:Addr):WS:=zmE C 0 "width" (wN zcc (zae (oPk 1) (aNil)))
def zum (C:Addr):WS:=zmE C 0 "lines" (wN zbR (aNil))
def zqL (C:Addr):WS:=zmE C 0 "owners" (wN zbR (aNil))
def zun (C:Addr):WS:=zee (zmJ "list" za8 C 0 "lines" (zae (oFz (w2 zcb (oVal (wLc (iSeq (wVar 1)) (.nm 4) (zd5) (w2 opIx (oPk 4) (oPk 3)) [4])) (oVal (wLc (iR1 (oPk 2)) (.nm 5) (zd5) (wN zlx (zae (oVal (w2 (opEq false) (oPk 5) (oPk 3))) (aNil))) [5])))) (aNil)))
def zoh (C:Addr):WS:=zee (zmJ "list" za8 C 0 "owners" (zae (oFz (w2 zcb (oVal (wN zcc (zae (oPk 1) (aNil)))) (oPk 3))) (aNil)))
def zuo (C:Addr):WS:=sSeq (zun C) (zoh C)
def zoi (C:Addr):WS:=sFor (iR1 (oPk 2)) (.nm 3)
 (zuo C)
def zlK (C:Addr):WS:=zmE C 0 "gains" (wFz (w2 zcb (oVal (w2 ze8 (oVal (wKl [.int 1])) (oVal (wN zcc (zae (oPk 1) (aNil)))))) (oVal (w2 ze8 (oVal (wKl [.int 0])) (oPk 2)))))
def w_tn (C:Addr):WS:=sSeq (zxD C) (sSeq (zum C) (sSeq (zqL C) (sSeq (zoi C) (zlK C))))
def zkD (rows_1:D) (kinds_1:D) (d_1:D) (s_1:List D×List D):R (List D×List D) :=
 R.bind (zcX rows_1) λds_2 =>
 R.bind (lcM (λd_2:D=>nIx d_2 d_1) ds_2) λxs_1 =>
 R.bind (nR1 kinds_1) λds_3 =>
 R.bind (lcM (λd_3:D=>R.bind (nEq false d_3 d_1) λt_3=>zk6 (.bl t_3)) ds_3) λxs_2 =>
 R.bind (zii (.lst xs_1) (.lst xs_2)) λt_5 =>
 R.bind (nApp s_1.1 (.lst t_5)) λlines_1 =>
 R.bind (nLen rows_1) λt_6 =>
 R.bind (nAdd t_6 d_1) λt_7 =>
 R.bind (nApp s_1.2 t_7.d) λowners_1 =>
 .ok (lines_1,owners_1)
@[irreducible] def n_tn (rows_1:D) (kinds_1:D):R (D×List D×List D×List D) :=
  R.bind (nLen rows_1) λt_1 =>
  R.bind (nR1 kinds_1) λds_1 =>
  R.bind (R.forS (zkD rows_1 kinds_1) ds_1 (([]:List D),([]:List D))) λs_2 =>
  R.bind (nLen rows_1) λt_8 =>
  R.bind (zrL (.lst [.int 1]) t_8) λt_9 =>
  R.bind (zrL (.lst [.int 0]) kinds_1) λt_10 =>
  R.bind (zii (.lst t_9) (.lst t_10)) λt_11 =>
  .ok (t_1,s_2.1,s_2.2,t_11)
abbrev zzB (C:Addr) (ms:List M) (Q:M->En->Prop) (X:Xn->Prop):Prop:=∃ (dx:Addr) (rows_1 kinds_1:D),
 ms=[.ob C dx [],.fz rows_1,.fz kinds_1]/\(n_tn rows_1 kinds_1).post (λr=>∀ u:Nat->V,Q (M.fz .non) [some (tbl C dx u r.1 r.2.1 r.2.2.1 (.lst r.2.2.2)),none,none]) X
abbrev f_tn (C:Addr):Fn:=⟨3,[0],zzB C⟩
theorem zzC (C:Addr):zbm (zzB C):=λms Q Q' X X' hq hx ⟨dx,a,b,e,h⟩=>⟨dx,a,b,e,zay h (λ_ h u=>hq _ _ (h u)) hx⟩
theorem j_tn (C:Addr) (ms:List M) (Q:M->En->Prop) (X:Xn->Prop) (h:zzB C ms Q X):wFn 6 3 [0] (w_tn C) ms Q X:=by
 obtain ⟨dx,rows_1,kinds_1,rfl,h⟩:=h
 unfold n_tn at h
 refine zbk (e0:=[some (.ob C dx []),some (.fz rows_1),some (.fz kinds_1),none,none,none]) rfl λE hrt hnx hx => ?_
 show (sSeq (zxD C) (sSeq (zum C) (sSeq (zqL C) (sSeq (zoi C) (zlK C))))) _ _
 refine zar (ztj (k_wN (k_ac (k_pk rfl (k_an (zbn rfl (zak (zcz h λt_1 h=>znM rfl (by show 0<1000; decide) rfl λu0 => ?_))))))))
 show (sSeq (zum C) (sSeq (zqL C) (sSeq (zoi C) (zlK C)))) _ [some (.ob C dx [("width",u0,.fz t_1)]),some (.fz rows_1),some (.fz kinds_1),none,none,none]
 refine zar (ztj (k_wN (k_an (zak (zcA rfl rfl (znM rfl (by show 1<1000; decide) rfl λu1 => ?_))))))
 show (sSeq (zqL C) (sSeq (zoi C) (zlK C))) _ [some (.ob C dx [("width",u0,.fz t_1),("lines",u1,.lst [])]),some (.fz rows_1),some (.fz kinds_1),none,none,none]
 refine zar (ztj (k_wN (k_an (zak (zcA rfl rfl (znM rfl (by show 2<1000; decide) rfl λu2 => ?_))))))
 show (sSeq (zoi C) (zlK C)) _ [some (.ob C dx [("width",u0,.fz t_1),("lines",u1,.lst []),("owners",u2,.lst [])]),some (.fz rows_1),some (.fz kinds_1),none,none,none]
 refine zar (zfc (zig (k_pk rfl (k_wp rfl (k_r1 h λds_1 h=>zcf (λ(s_1:List D×List D) (j_1:Option M)=>[some (.ob C dx [("width",u0,.fz t_1),("lines",u1,.lst s_1.1),("owners",u2,.lst s_1.2)]),some (.fz rows_1),some (.fz kinds_1),j_1,none,none]) ?_ ?_ _ (([]:List D),([]:List D)) none h)))))
 ·intro d_1 s_1 j_1 N S hn h
  unfold zkD at h
  refine g_nm (?_)
  show zuo C _ [some (.ob C dx [("width",u0,.fz t_1),("lines",u1,.lst s_1.1),("owners",u2,.lst s_1.2)]),some (.fz rows_1),some (.fz kinds_1),some (.fz d_1),none,none]
  refine zar (zcB (zxr rfl rfl rfl (k_ac (k_fz (k_w2 (zag (k_lc (zdy (zam rfl (zcV h λds_2 h=>zg7 h (λd_2 S KK hk h=>g_nm (k_w2 (k_pk rfl (k_pk rfl (k_wp rfl (k_wp rfl (k_ix (tl h) λt_2 h=>hk _ _ rfl h))))))) λxs_1 h=>zag (k_lc (zig (k_pk rfl (k_wp rfl (k_r1 h λds_3 h=>zg7 h (λd_3 S KK hk h=>g_nm (k_wN (k_ac (zag (k_w2 (k_pk rfl (k_pk rfl (k_wp rfl (k_wp rfl (k_eq h λt_3 h=>k_an (zao (zak (zql (tl h) λt_4 h=>hk _ _ rfl h))))))))))))) λxs_2 h=>k_wv (k_wv (znH h λt_5 h=>k_an (ztx rfl rfl rfl (zao (zak (zfZ h λlines_1 h=>zty rfl ?_)))))))))))))))))))))
  show zoh C _ [some (.ob C dx [("width",u0,.fz t_1),("lines",u1,.lst lines_1),("owners",u2,.lst s_1.2)]),some (.fz rows_1),some (.fz kinds_1),some (.fz d_1),none,none]
  refine zcB (zxr rfl rfl rfl (k_ac (k_fz (k_w2 (zag (k_wN (k_ac (k_pk rfl (k_an (zbn rfl (zak (zcz h λt_6 h=>k_pk rfl (k_wv (k_wp rfl (zfa h λt_7 h=>k_an (ztx rfl rfl rfl (zao (zak (zfZ h λowners_1 h=>zty rfl ?_)))))))))))))))))))
  exact hn (lines_1,owners_1) (some (.fz d_1)) h
 ·intro s_2 j_2 h
  show zlK C _ [some (.ob C dx [("width",u0,.fz t_1),("lines",u1,.lst s_2.1),("owners",u2,.lst s_2.2)]),some (.fz rows_1),some (.fz kinds_1),j_2,none,none]
  refine ztj (k_fz1 (k_w2 (zag (k_w2 (zag (k_kl (zag (k_wN (k_ac (k_pk rfl (k_an (zbn rfl (zak (zcz h λt_8 h=>k_wv (k_wv (ztA h λt_9 h=>zag (k_w2 (zag (k_kl (k_pk rfl (k_wv (k_wp rfl (ztA h λt_10 h=>k_wv (k_wv (znH h λt_11 h=>znM rfl (by show 3<1000; decide) rfl λu3 => ?_)))))))))))))))))))))))))
  exact hnx _ (h (uFour u0 u1 u2 u3))
end VW
set_option maxHeartbeats 4000000
namespace VW
open PySem PySem.Spec PyProof.Rows L2 R
def zxE (C:Addr):WS:=sSet 2 (zrB C (f_tn C) (zae (oFz (zaI zjy (zae (oFz (wVar 0)) (zae (oFz (wVar 1)) (aNil))))) (zae (oVal (wN zcc (zae (oPk 0) (aNil)))) (aNil))))
def zup (C:Addr):WS:=sSet 3 (zjj C "gaining" 2 (f_tg C) aNil)
def zuq (C:Addr):WS:=sSet 4 (zjj C "giving" 2 (f_tv C) (zae (oFz (wVar 3)) (aNil)))
def zoj (C:Addr):WS:=sIf (tVal (w2 (opIs false) (oPk 4) (oVal (wC .non))))
 (sRet (oVal (wN zbr (zae (oVal (wC (.str "none"))) (zae (oFz (zrM 2 ["lines", "owners"] (zjj C "times" 2 (f_tm C) (zae (oFz (wVar 3)) (aNil))))) (aNil))))))
 (sNx)
def zkE (C:Addr):WS:=zee (zjj C "turn" 2 (f_tt C) (zae (oFz (wVar 4)) (zae (oFz (wVar 3)) (aNil))))
def zhP (C:Addr):WS:=sSet 3 (zjj C "gaining" 2 (f_tg C) aNil)
def zur (C:Addr):WS:=sSeq (zuq C) (sSeq (zoj C) (sSeq (zkE C) (zhP C)))
def zqM (C:Addr):WS:=zhv (tVal (w2 (opIs true) (oPk 3) (oVal (wC .non))))
 (zur C)
def zok (C:Addr):WS:=sRet (oVal (wN zbr (zae (oVal (wC (.str "weight"))) (zae (oFz (wN zde (zae (oVal (wLc (iSeq (wSl opSl (oFld C 2 "gains") (pInt (wOfz (oFld C 2 "width"))) (pNo))) (.nm 5) (zd5) (w2 zk5 (oVal (wC (.int 0))) (oPk 5)) [5])) (aNil)))) (aNil)))))
def w_wd (C:Addr):WS:=sSeq (zxE C) (sSeq (zup C) (sSeq (zqM C) (zok C)))
@[irreducible] def zdj:Nat:=2 ^ 60
def zfB (w_1:D) (s_1:List D×List D×D×D) (K A:(List D×List D×D×D)->R D):R D :=
 R.bind (nIs true s_1.2.2.2 (.non)) λt_7 =>
 if t_7=true then
 R.bind (n_tv s_1.1 s_1.2.1 s_1.2.2.2) λt_10 =>
 R.bind (nIs false t_10 (.non)) λt_11 =>
 if t_11=true then
 R.bind (n_tm s_1.1 s_1.2.1 s_1.2.2.1 w_1 s_1.2.2.2) λt_12 =>
 .ok (.tup [(.str "none"),t_12])
 else
 R.bind (n_tt s_1.1 s_1.2.1 s_1.2.2.1 t_10 s_1.2.2.2) λt_13 =>
 R.bind (n_tg (.lst t_13.1)) λt_14 =>
 K (t_13.2.1,t_13.2.2,(.lst t_13.1),t_14)
 else A s_1
def zf6 (w_1:D) (s_2:List D×List D×D×D):R D :=
 R.bind (nInt w_1) λi_1 =>
 R.bind (nSl s_2.2.2.1 (some i_1) none) λt_15 =>
 R.bind (zcX t_15.d) λds_1 =>
 R.bind (lcM (λd_1:D=>nSub (.int 0) d_1) ds_1) λxs_1 =>
 R.bind (zcy (.lst xs_1)) λt_17 =>
 .ok (.tup [(.str "weight"),t_17])
@[irreducible] def zdk (stock_1:D) (rules_1:D):R D :=
  R.bind (zgB stock_1 rules_1) λt_1 =>
  R.bind (nLen stock_1) λt_2 =>
  R.bind (n_tn (.lst t_1) t_2) λr_1 =>
  R.bind (n_tg (.lst r_1.2.2.2)) λt_6 =>
  R.whileN (zfB r_1.1) (zf6 r_1.1) zdj (r_1.2.1,r_1.2.2.1,(.lst r_1.2.2.2),t_6)
abbrev zix (ms:List M) (Q:M->En->Prop) (X:Xn->Prop):Prop:=∃ (stock_1:D) (rules_1:D),ms=[(.fz stock_1),(.fz rules_1)]/\(zdk stock_1 rules_1).post (λr=>Q (M.fz r) [none,none]) X
abbrev zdV:Fn:=⟨2,[],zix⟩
theorem zol:zbm zix:=λms Q Q' X X' hq hx ⟨a,b,e,h⟩=>⟨a,b,e,zay h (λ_ h=>hq _ _ h) hx⟩
theorem zus (C:Addr) (ms:List M) (Q:M->En->Prop) (X:Xn->Prop) (h:zix ms Q X):wFn 6 2 [] (w_wd C) ms Q X:=by
 obtain ⟨stock_1,rules_1,rfl,h⟩:=h
 unfold zdk at h
 refine zbk (e0:=[some (.fz stock_1),some (.fz rules_1),none,none,none,none]) rfl λE hrt hnx hx => ?_
 show (sSeq (zxE C) (sSeq (zup C) (sSeq (zqM C) (zok C)))) _ _
 refine zar (zaP (k_make (fn:=f_tn C) (k_ac (k_fz (zas (fn:=zjy) (k_ac (k_fz (zam rfl (k_ac (k_fz (zam rfl (k_an (zau (zau (zaJ ⟨rfl,_,_,rfl,zaq h (λt_1 h=>k_ac (zag (k_wN (k_ac (k_pk rfl (k_an (zbn rfl (zak (zcz h λt_2 h=>k_an (zau (zau (zaJ ⟨rfl,λdx=>⟨dx,_,_,rfl,zaq h (λr_1 h=>λu => ?_) (λx z=>hx x _ z)⟩⟩)))))))))))) (λx z=>hx x _ z)⟩)))))))))))))))
 show (sSeq (zup C) (sSeq (zqM C) (zok C))) _ [some (.fz stock_1),some (.fz rules_1),some (tbl C dx u r_1.1 r_1.2.1 r_1.2.2.1 (.lst r_1.2.2.2)),none,none,none]
 refine zar (zaP (znN rfl rfl (zas (fn:=f_tg C) (k_ac (k_pk rfl (k_an (zbj rfl (zaJ ⟨rfl,dx,u,_,_,_,_,rfl,zaq h (λt_6 h => ?_) (λx z=>hx x _ z)⟩))))))))
 show (sSeq (zqM C) (zok C)) _ [some (.fz stock_1),some (.fz rules_1),some (tbl C dx u r_1.1 r_1.2.1 r_1.2.2.1 (.lst r_1.2.2.2)),some (.fz t_6),none,none]
 refine zar (zhH (λ(s_1:List D×List D×D×D) (j_1:(Nat->V)×Option M)=>[some (.fz stock_1),some (.fz rules_1),some (tbl C dx j_1.1 r_1.1 s_1.1 s_1.2.1 s_1.2.2.1),some (.fz s_1.2.2.2),j_1.2,none]) (λs_2 j_2 h => ?_) (λha => ?_) zdj (r_1.2.1,r_1.2.2.1,(.lst r_1.2.2.2),t_6) (u,none) h)
 ·unfold zf6 at h
  show zok C _ [some (.fz stock_1),some (.fz rules_1),some (tbl C dx j_2.1 r_1.1 s_2.1 s_2.2.1 s_2.2.2.1),some (.fz s_2.2.2.2),j_2.2,none]
  refine za1 (k_wN (k_ac (zag (k_c (k_ac (k_fz (k_wN (k_ac (zag (k_lc (zdy (zmt (zmG rfl rfl (zhE (zrX rfl rfl (zhF h λi_1 h=>zmu (znL rfl rfl (k_sl h λt_15 h=>zcV h λds_1 h=>zg7 h (λd_1 S KK hk h=>g_nm (k_w2 (zag (k_c (k_pk rfl (k_wv (k_wp rfl (znC (tl h) λt_16 h=>hk _ _ rfl h)))))))) λxs_1 h=>k_an (zao (zak (zeD h λt_17 h=>k_an (zao (zao (zak (zce rfl rfl (hrt _ _ h))))))))))))))))))))))))))
 ·intro s_1 j_1 N K hn h
  unfold zfB at h
  refine zaN (k_w2 (k_pk rfl (zag (k_c (k_wp rfl (k_wv (k_is h λt_7 h=>j_tv (zs6 h (λh => ?_) (λh => ?_)))))))))
  ·show zur C _ [some (.fz stock_1),some (.fz rules_1),some (tbl C dx j_1.1 r_1.1 s_1.1 s_1.2.1 s_1.2.2.1),some (.fz s_1.2.2.2),j_1.2,none]
   refine zar (zaP (znN rfl rfl (zas (fn:=f_tv C) (k_ac (k_pk rfl (k_ac (k_fz (zam rfl (k_an (zbj rfl (zau (zaJ ⟨rfl,dx,j_1.1,_,_,_,_,_,rfl,zaq h (λt_10 h => ?_) (λx z=>hx x _ z)⟩))))))))))))
   show (sSeq (zoj C) (sSeq (zkE C) (zhP C))) _ [some (.fz stock_1),some (.fz rules_1),some (tbl C dx j_1.1 r_1.1 s_1.1 s_1.2.1 s_1.2.2.1),some (.fz s_1.2.2.2),some (.fz t_10),none]
   refine zar (zeT (zaN (k_w2 (k_pk rfl (zag (k_c (k_wp rfl (k_wv (k_is h λt_11 h=>j_tv (zfb h (λh => ?_) (λh => ?_)))))))))))
   ·refine za1 (k_wN (k_ac (zag (k_c (k_ac (k_fz (k_frzP rfl (znN rfl rfl (zas (fn:=f_tm C) (k_ac (k_pk rfl (k_ac (k_fz (zam rfl (k_an (zbj rfl (zau (zaJ ⟨rfl,dx,j_1.1,r_1.1,s_1.1,s_1.2.1,s_1.2.2.1,s_1.2.2.2,rfl,zaq h (λt_12 h=>k_an (zao (zao (zak (zce rfl rfl (hrt _ _ h)))))) (λx z=>hx x _ z)⟩))))))))))))))))))
   ·refine k_nx ?_
    show (sSeq (zkE C) (zhP C)) _ [some (.fz stock_1),some (.fz rules_1),some (tbl C dx j_1.1 r_1.1 s_1.1 s_1.2.1 s_1.2.2.1),some (.fz s_1.2.2.2),some (.fz t_10),none]
    refine zar (zcB (znN rfl rfl (zas (fn:=f_tt C) (k_ac (k_pk rfl (k_ac (k_fz (zam rfl (k_ac (k_fz (zam rfl (k_an (zbj rfl (zau (zau (zaJ ⟨rfl,dx,j_1.1,_,_,_,_,_,_,rfl,zaq h (λt_13 h=>λu2 => ?_) (λx z=>hx x _ z)⟩))))))))))))))))
    show zhP C _ [some (.fz stock_1),some (.fz rules_1),some (tbl C dx u2 r_1.1 t_13.2.1 t_13.2.2 (.lst t_13.1)),some (.fz s_1.2.2.2),some (.fz t_10),none]
    refine zaP (znN rfl rfl (zas (fn:=f_tg C) (k_ac (k_pk rfl (k_an (zbj rfl (zaJ ⟨rfl,dx,u2,_,_,_,_,rfl,zaq h (λt_14 h => ?_) (λx z=>hx x _ z)⟩)))))))
    exact hn (t_13.2.1,t_13.2.2,(.lst t_13.1),t_14) (u2,some (.fz t_10)) h
  ·exact ha s_1 j_1 h
end VW
set_option maxHeartbeats 4000000
namespace VW
open PySem PySem.Spec PyProof.Rows L2 R
def zhQ:WS:=sSet 2 (wIf (tVal (w2 (zfW .lt) (oPk 1) (oVal (wN zcc (zae (oPk 0) (aNil)))))) (w2 opIx (oPk 0) (oPk 1)) (wC (.int 0)))
def zfC:WS:=sIf (tVal (w2 (zfW .ge) (oPk 2) (oVal (w2 zvx (oVal (wC (.int 10))) (oVal (wC (.int 18)))))))
 (sRet (oVal (wN zbR (zae (oFz (w2 zk5 (oPk 2) (oVal (w2 zvx (oVal (wC (.int 10))) (oVal (wC (.int 18))))))) (aNil)))))
 (sNx)
def zei:WS:=sSet 3 (wC (.int 0))
def zdl:WS:=sSet 4 (w2 zns (oVal (w2 zcb (oVal (w2 zcb (oVal (w2 ze8 (oPk 2) (oVal (wC (.int 48271))))) (oVal (w2 ze8 (oVal (wC (.int 7919))) (oPk 1))))) (oVal (wC (.int 11))))) (oVal (wC (.int 2147483647))))
def zjm:WS:=sSet 4 (w2 zns (oVal (w2 zcb (oVal (w2 zcb (oVal (w2 ze8 (oPk 4) (oPk 4))) (oVal (w2 ze8 (oVal (wC (.int 48271))) (oPk 4))))) (oPk 5))) (oVal (wC (.int 2147483629))))
def zcL:WS:=sSet 3 (w2 zcb (oVal (w2 ze8 (oPk 3) (oVal (wC (.int 2147483587))))) (oVal (w2 zns (oVal (w2 ze8 (oPk 4) (oVal (wC (.int 69621))))) (oVal (wC (.int 2147483587))))))
def zgV:WS:=sSeq (zjm) (zcL)
def zcu:WS:=sFor (iR1 (oVal (wC (.int 20)))) (.nm 5)
 (zgV)
def za9:WS:=sRet (oVal (wN zbR (zae (oFz (wVar 3)) (aNil))))
def zkF:WS:=sSeq (zhQ) (sSeq (zfC) (sSeq (zei) (sSeq (zdl) (sSeq (zcu) (za9)))))
abbrev zom:Type:=List D
def zdQ (d_1:D) (s_1:M×D):R (M×D) :=
 R.bind (nMul s_1.2 s_1.2) λt_14 =>
 R.bind (nMul (.int 48271) s_1.2) λt_15 =>
 R.bind (nAdd t_14.d t_15.d) λt_16 =>
 R.bind (nAdd t_16.d d_1) λt_17 =>
 R.bind (nMod t_17.d (.int 2147483629)) λt_18 =>
 R.bind (nMul s_1.1.d (.int 2147483587)) λt_19 =>
 R.bind (nMul t_18 (.int 69621)) λt_20 =>
 R.bind (nMod t_20.d (.int 2147483587)) λt_21 =>
 R.bind (nAdd t_19.d t_21) λt_22 =>
 .ok (t_22,t_18)
@[irreducible] def zci (script_1:D) (k_1:D):R (zom) :=
  R.bind (nLen script_1) λt_1 =>
  R.bind (nOrd .lt k_1 t_1) λt_2 =>
  R.bind (if t_2=true then (nIx script_1 k_1:R (D)) else .ok ((.int 0))) λt_4 =>
  R.bind (nPow (.int 10) (.int 18)) λt_5 =>
  R.bind (nOrd .ge t_4 t_5) λt_6 =>
  if t_6=true then
  R.bind (nPow (.int 10) (.int 18)) λt_7 =>
  R.bind (nSub t_4 t_7) λt_8 =>
  .ok ([t_8])
  else
  R.bind (nMul t_4 (.int 48271)) λt_9 =>
  R.bind (nMul (.int 7919) k_1) λt_10 =>
  R.bind (nAdd t_9.d t_10.d) λt_11 =>
  R.bind (nAdd t_11.d (.int 11)) λt_12 =>
  R.bind (nMod t_12.d (.int 2147483647)) λt_13 =>
  R.bind (nR1 (.int 20)) λds_1 =>
  R.bind (R.forS (zdQ) ds_1 ((.fz (.int 0)),t_13)) λs_2 =>
  .ok ([s_2.1.d])
abbrev zf7 (ms:List M) (Q:M->En->Prop) (X:Xn->Prop):Prop:=∃ (script_1:D) (k_1:D),ms=[(.fz script_1),(.fz k_1)]/\(zci script_1 k_1).post (λr=>Q (M.lst r) [none,none]) X
abbrev zcj:Fn:=⟨2,[],zf7⟩
theorem zla:zbm zf7:=λms Q Q' X X' hq hx ⟨script_1,k_1,e,h⟩=>⟨script_1,k_1,e,zay h (λ_ h=>hq _ _ h) hx⟩
theorem zpo (ms:List M) (Q:M->En->Prop) (X:Xn->Prop) (h:zf7 ms Q X):wFn 6 2 [] zkF ms Q X:=by
 obtain ⟨script_1,k_1,rfl,h⟩:=h
 unfold zci at h
 refine zbk (e0:=[some (.fz script_1),some (.fz k_1),none,none,none,none]) rfl λE hrt hnx hx => ?_
 show (sSeq zhQ (sSeq zfC (sSeq zei (sSeq zdl (sSeq zcu (za9)))))) _ _
 refine zar @(zaP @(zyA @(zaN @(k_w2 @(k_pk rfl @(zag @(k_wN @(k_ac @(k_pk rfl @(k_an @(zbn rfl @(zak @(zcz h λt_1 h=>k_wp rfl @(k_wv @(zji h λt_2 h=>j_tv @(zyB (λ(v:D)=>M.fz v) (λ(v:D)=>[some (.fz script_1),some (.fz k_1),none,none,none,none]) h (λJ0 h=>k_w2 @(k_pk rfl @(k_pk rfl @(k_wp rfl @(k_wp rfl @(k_ix h λt_3 h=>J0 t_3 h)))))) (λJ0 h=>k_c (J0 (.int 0) h)) (λt_4 h => ?_)))))))))))))))))
 show (sSeq zfC (sSeq zei (sSeq zdl (sSeq zcu (za9))))) _ [some (.fz script_1),some (.fz k_1),some (.fz t_4),none,none,none]
 refine zar @(zeT @(zaN @(k_w2 @(k_pk rfl @(zag @(k_w2 @(zag @(k_c @(zag @(k_c @(k_wv @(k_wv @(k_pow h λt_5 h=>k_wp rfl @(k_wv @(zji h λt_6 h=>j_tv @(zfb h (λh => ?_) (λh => ?_)))))))))))))))))
 ·refine za1 @(k_wN @(k_ac @(k_fz @(k_w2 @(k_pk rfl @(zag @(k_w2 @(zag @(k_c @(zag @(k_c @(k_wv @(k_wv @(k_pow h λt_7 h=>k_wp rfl @(k_wv @(znC h λt_8 h=>k_an @(zao @(zak @(zcA rfl rfl (hrt _ _ h))))))))))))))))))))
 ·refine k_nx ?_
  show (sSeq zei (sSeq zdl (sSeq zcu (za9)))) _ [some (.fz script_1),some (.fz k_1),some (.fz t_4),none,none,none]
  refine zar @(zaP @(k_c (?_)))
  show (sSeq zdl (sSeq zcu (za9))) _ [some (.fz script_1),some (.fz k_1),some (.fz t_4),some (.fz (.int 0)),none,none]
  refine zar @(zaP @(k_w2 @(zag @(k_w2 @(zag @(k_w2 @(zag @(k_w2 @(k_pk rfl @(zag @(k_c @(k_wp rfl @(k_wv @(zmq h λt_9 h=>zag @(k_w2 @(zag @(k_c @(k_pk rfl @(k_wv @(k_wp rfl @(zmq h λt_10 h=>k_wv @(k_wv @(zfa h λt_11 h=>zag @(k_c @(k_wv @(k_wv @(zfa h λt_12 h=>zag @(k_c @(k_wv @(k_wv @(zrs h λt_13 h => ?_)))))))))))))))))))))))))))))))
  show (sSeq zcu (za9)) _ [some (.fz script_1),some (.fz k_1),some (.fz t_4),some (.fz (.int 0)),some (.fz t_13),none]
  refine zar @(zfc @(zig @(zag @(k_c @(k_wv @(k_r1 h λds_1 h=>zcf (λ(s_1:M×D) (j_1:Option M)=>[some (.fz script_1),some (.fz k_1),some (.fz t_4),some s_1.1,some (.fz s_1.2),j_1]) ?_ ?_ _ ((.fz (.int 0)),t_13) none h))))))
  ·intro d_1 s_1 j_1 N S hn h
   refine g_nm (?_)
   show zgV _ [some (.fz script_1),some (.fz k_1),some (.fz t_4),some s_1.1,some (.fz s_1.2),some (.fz d_1)]
   refine zar @(zaP @(k_w2 @(zag @(k_w2 @(zag @(k_w2 @(zag @(k_w2 @(k_pk rfl @(k_pk rfl @(k_wp rfl @(k_wp rfl @(zmq h λt_14 h=>zag @(k_w2 @(zag @(k_c @(k_pk rfl @(k_wv @(k_wp rfl @(zmq h λt_15 h=>k_wv @(k_wv @(zfa h λt_16 h=>k_pk rfl @(k_wv @(k_wp rfl @(zfa h λt_17 h=>zag @(k_c @(k_wv @(k_wv @(zrs h λt_18 h => ?_)))))))))))))))))))))))))))))
   try with_reducible show zcL _ _
   show zcL _ [some (.fz script_1),some (.fz k_1),some (.fz t_4),some s_1.1,some (.fz t_18),some (.fz d_1)]
   refine zaP @(k_w2 @(zag @(k_w2 @(k_pk rfl @(zag @(k_c @(k_wp rfl @(k_wv @(zmq h λt_19 h=>zag @(k_w2 @(zag @(k_w2 @(k_pk rfl @(zag @(k_c @(k_wp rfl @(k_wv @(zmq h λt_20 h=>zag @(k_c @(k_wv @(k_wv @(zrs h λt_21 h=>k_wv @(k_wv @(zfa h λt_22 h => ?_))))))))))))))))))))))))
   exact hn (t_22,t_18) (some (.fz d_1)) h
  ·intro s_2 j_2 h
   try with_reducible show za9 _ _
   show za9 _ [some (.fz script_1),some (.fz k_1),some (.fz t_4),some s_2.1,some (.fz s_2.2),j_2]
   refine za1 @(k_wN @(k_ac @(k_fz @(zms rfl @(k_an @(zao @(zak @(zcA rfl rfl (hrt _ _ h)))))))))
def zon:WS:=sRet (oVal (wN zde (zae (oVal (wN zfk (zae (oVal (wLc (iSeq (wVar 0)) (.nm 1) (zd5) (wN zde (zae (oVal (wN zfk (zae (oPk 1) (aNil)))) (aNil))) [1])) (aNil)))) (aNil))))
abbrev zr0:Type:=D
@[irreducible] def zdW (pairs_1:D):R (zr0) :=
  R.bind (zcX pairs_1) λds_1 =>
  R.bind (lcM (λd_1:D=>R.bind (zdM d_1) λt_1=>zcy (.lst t_1)) ds_1) λxs_1 =>
  R.bind (zdM (.lst xs_1)) λt_3 =>
  R.bind (zcy (.lst t_3)) λt_4 =>
  .ok t_4
abbrev ziy (ms:List M) (Q:M->En->Prop) (X:Xn->Prop):Prop:=∃ (pairs_1:D),ms=[(.fz pairs_1)]/\(zdW pairs_1).post (λr=>Q (M.fz r) [none]) X
abbrev zeK:Fn:=⟨1,[],ziy⟩
theorem zoo:zbm ziy:=λms Q Q' X X' hq hx ⟨pairs_1,e,h⟩=>⟨pairs_1,e,zay h (λ_ h=>hq _ _ h) hx⟩
theorem zut (ms:List M) (Q:M->En->Prop) (X:Xn->Prop) (h:ziy ms Q X):wFn 2 1 [] zon ms Q X:=by
 obtain ⟨pairs_1,rfl,h⟩:=h
 unfold zdW at h
 refine zbk (e0:=[some (.fz pairs_1),none]) rfl λE hrt hnx hx => ?_
 refine za1 @(k_wN @(k_ac @(zag @(k_wN @(k_ac @(zag @(k_lc @(zdy @(zam rfl @(zcV h λds_1 h=>zg7 h (λd_1 S KK hk h=>g_nm @(k_wN @(k_ac @(zag @(k_wN @(k_ac @(k_pk rfl @(k_an @(zbn rfl @(zak @(zj9 h λt_1 h=>k_an @(zao @(zak @(zeD (tl h) λt_2 h=>hk _ _ rfl h)))))))))))))) λxs_1 h=>k_an @(zao @(zak @(zj9 h λt_3 h=>k_an @(zao @(zak @(zeD h λt_4 h=>hrt _ _ h))))))))))))))))
def ziX:WS:=sSet 2 (wC (.str "abcdefghijklmnopqrstuvwxyz"))
def zf8:WS:=sSet 3 (wMt "str" zqd (oVal (wC (.str ""))) (zae (oVal (wLc (iR1 (oVal (wC (.int 8)))) (.nm 7) (zd5) (w2 opIx (oPk 2) (oVal (zaI zal (zae (oPk 0) (zae (oVal (wC (.int 26))) (aNil)))))) [7])) (aNil)))
def zeW:WS:=sIf (tVal (w2 (opEq false) (oVal (zaI zal (zae (oPk 0) (zae (oVal (wC (.int 4))) (aNil))))) (oVal (wC (.int 0)))))
 (sRet (oVal (wLc (iR1 (oPk 1)) (.nm 7) (zd5) (wSl opSl (oPk 3) (pNo) (pInt (w2 zcb (oPk 7) (oVal (wC (.int 1)))))) [7])))
 (sNx)
def zdX:WS:=sSet 3 (wSl opSl (oPk 3) (pNo) (pInt (w2 zcb (oVal (wC (.int 1))) (oVal (zaI zal (zae (oPk 0) (zae (oVal (wC (.int 7))) (aNil))))))))
def zc1:WS:=sSet 4 (zaI zal (zae (oPk 0) (zae (oFz (wN zcc (zae (oPk 3) (aNil)))) (aNil))))
def zck:WS:=sSet 5 (wMt "str" zvN (oPk 2) (zae (oVal (w2 opIx (oPk 3) (oPk 4))) (aNil)))
def zbG:WS:=sSet 6 (wN zbR (aNil))
def zkG:WS:=sSet 8 (w2 opIx (oPk 2) (oVal (w2 zns (oVal (w2 zcb (oPk 5) (oVal (w2 ze8 (oVal (wC (.int 3))) (oPk 7))))) (oVal (wC (.int 26))))))
def zf9:WS:=sSet 9 (w2 zcb (oVal (wSl opSl (oPk 3) (pInt (w2 zcb (oPk 4) (oVal (wC (.int 1))))) (pNo))) (oVal (w2 zhL (oVal (wC (.str "e"))) (oVal (wN zlx (zae (oVal (w2 (opEq false) (oVal (zaI zal (zae (oPk 0) (zae (oVal (wC (.int 4))) (aNil))))) (oVal (wC (.int 0))))) (aNil)))))))
def zcl:WS:=zee (wMut "list" za8 6 (zae (oFz (w2 zcb (oVal (w2 zcb (oVal (wSl opSl (oPk 3) (pNo) (pInt (wVar 4)))) (oPk 8))) (oPk 9))) (aNil)))
def zhR:WS:=sSeq (zkG) (sSeq (zf9) (zcl))
def zbo:WS:=sFor (iR1 (oPk 1)) (.nm 7)
 (zhR)
def zaU:WS:=sRet (oPk 6)
def zlL:WS:=sSeq (ziX) (sSeq (zf8) (sSeq (zeW) (sSeq (zdX) (sSeq (zc1) (sSeq (zck) (sSeq (zbG) (sSeq (zbo) (zaU))))))))
abbrev zpp:Type:=List D×List D
def zej (t_16:D) (t_14:D×List D) (t_12:M) (d_4:D) (s_1:List D×List D):R (List D×List D) :=
 R.bind (nMul (.int 3) d_4) λt_17 =>
 R.bind (nAdd t_16 t_17.d) λt_18 =>
 R.bind (nMod t_18.d (.int 26)) λt_19 =>
 R.bind (nIx (.str "abcdefghijklmnopqrstuvwxyz") t_19) λt_20 =>
 R.bind (nAdd t_14.1 (.int 1)) λt_21 =>
 R.bind (nInt t_21.d) λi_3 =>
 R.bind (nSl t_12.d (some i_3) none) λt_22 =>
 R.bind (zaw s_1.1 (.int 4)) λt_23 =>
 R.bind (nEq false t_23.1 (.int 0)) λt_24 =>
 R.bind (zk6 (.bl t_24)) λt_25 =>
 R.bind (zkd (.str "e") t_25) λt_26 =>
 R.bind (nAdd t_22.d t_26) λt_27 =>
 R.bind (nInt t_14.1) λi_4 =>
 R.bind (nSl t_12.d none (some i_4)) λt_28 =>
 R.bind (nAdd t_28.d t_20) λt_29 =>
 R.bind (nAdd t_29.d t_27.d) λt_30 =>
 R.bind (nApp s_1.2 t_30.d) λsome_1 =>
 .ok (t_23.2,some_1)
@[irreducible] def zeq (held_1:List D) (many_1:D):R (zpp) :=
  R.bind (nR1 (.int 8)) λds_1 =>
  R.bind (lcS (λ(d_2:D) (s:List D)=>R.bind (zaw s (.int 26)) λt_3=>R.bind (nIx (.str "abcdefghijklmnopqrstuvwxyz") t_3.1) λt_4=>.ok ((t_4,t_3.2))) ds_1 held_1) λxs_1 =>
  R.bind (zrr (.str "") (.lst xs_1.1)) λt_5 =>
  R.bind (zaw xs_1.2 (.int 4)) λt_6 =>
  R.bind (nEq false t_6.1 (.int 0)) λt_7 =>
  if t_7=true then
  R.bind (nR1 many_1) λds_2 =>
  R.bind (lcM (λd_3:D=>R.bind (nAdd d_3 (.int 1)) λt_8=>R.bind (nInt t_8.d) λi_1=>R.bind (nSl t_5 none (some i_1)) λt_9=>.ok t_9.d) ds_2) λxs_2 =>
  .ok (xs_2,t_6.2)
  else
  R.bind (zaw t_6.2 (.int 7)) λt_10 =>
  R.bind (nAdd (.int 1) t_10.1) λt_11 =>
  R.bind (nInt t_11.d) λi_2 =>
  R.bind (nSl t_5 none (some i_2)) λt_12 =>
  R.bind (nLen t_12.d) λt_13 =>
  R.bind (zaw t_10.2 t_13) λt_14 =>
  R.bind (nIx t_12.d t_14.1) λt_15 =>
  R.bind (nSIx (.str "abcdefghijklmnopqrstuvwxyz") t_15) λt_16 =>
  R.bind (nR1 many_1) λds_3 =>
  R.bind (R.forS (zej t_16 t_14 t_12) ds_3 (t_14.2,([]:List D))) λs_2 =>
  .ok (s_2.2,s_2.1)
abbrev zhe (ms:List M) (Q:M->En->Prop) (X:Xn->Prop):Prop:=∃ (held_1:List D) (many_1:D),ms=[(.lst held_1),(.fz many_1)]/\(zeq held_1 many_1).post (λr=>Q (M.lst r.1) [some (.lst r.2),none]) X
abbrev zes:Fn:=⟨2,[0],zhe⟩
theorem zmW:zbm zhe:=λms Q Q' X X' hq hx ⟨held_1,many_1,e,h⟩=>⟨held_1,many_1,e,zay h (λ_ h=>hq _ _ h) hx⟩
theorem zr1 (ms:List M) (Q:M->En->Prop) (X:Xn->Prop) (h:zhe ms Q X):wFn 10 2 [0] zlL ms Q X:=by
 obtain ⟨held_1,many_1,rfl,h⟩:=h
 unfold zeq at h
 refine zbk (e0:=[some (.lst held_1),some (.fz many_1),none,none,none,none,none,none,none,none]) rfl λE hrt hnx hx => ?_
 show (sSeq ziX (sSeq zf8 (sSeq zeW (sSeq zdX (sSeq zc1 (sSeq zck (sSeq zbG (sSeq zbo (zaU))))))))) _ _
 refine zar @(zaP @(k_c (?_)))
 show (sSeq zf8 (sSeq zeW (sSeq zdX (sSeq zc1 (sSeq zck (sSeq zbG (sSeq zbo (zaU)))))))) _ [some (.lst held_1),some (.fz many_1),some (.fz (.str "abcdefghijklmnopqrstuvwxyz")),none,none,none,none,none,none,none]
 refine zar @(zaP @(k_wmt @(zag @(k_c (⟨k_wv (rfl),k_ac @(zag @(k_lc @(zig @(zag @(k_c @(k_wv @(k_r1 h λds_1 h=>zxh (λs=>[some (.lst s),some (.fz many_1),some (.fz (.str "abcdefghijklmnopqrstuvwxyz")),none,none,none,none,none,none,none]) held_1 rfl h (λd_2 s S KK hk h=>g_nm @(k_w2 @(k_pk rfl @(zag @(zas (fn:=zal) @(k_ac @(k_pk rfl @(k_ac @(zag @(k_c @(k_an @(zbj rfl @(zau @(zaJ ⟨rfl,_,_,rfl,zaq h (λt_3 h=>k_wp rfl @(k_wv @(k_ix h λt_4 h=>hk _ _ t_3.2 rfl h))) (λ_ z=>z.elim)⟩)))))))))))))) λxs_1 h=>k_an @(k_wv @(zao @(zak @(k_join h λt_5 h => ?_)))))))))))⟩)))))
 show (sSeq zeW (sSeq zdX (sSeq zc1 (sSeq zck (sSeq zbG (sSeq zbo (zaU))))))) _ [some (.lst xs_1.2),some (.fz many_1),some (.fz (.str "abcdefghijklmnopqrstuvwxyz")),some (.fz t_5),none,none,none,none,none,none]
 refine zar @(zeT @(zaN @(k_w2 @(zag @(zas (fn:=zal) @(k_ac @(k_pk rfl @(k_ac @(zag @(k_c @(k_an @(zbj rfl @(zau @(zaJ ⟨rfl,_,_,rfl,zaq h (λt_6 h=>zag @(k_c @(k_wv @(k_wv @(k_eq h λt_7 h=>j_tv @(zfb h (λh => ?_) (λh => ?_))))))) (λx z=>hx x _ z)⟩))))))))))))))
 ·refine za1 @(k_lc @(zig @(k_pk rfl @(k_wp rfl @(k_r1 h λds_2 h=>zg7 h (λd_3 S KK hk h=>g_nm @(zmt @(k_pk rfl @(zmu @(zhE @(k_w2 @(k_pk rfl @(zag @(k_c @(k_wp rfl @(k_wv @(zfa h λt_8 h=>zhF h λi_1 h=>k_wp rfl @(k_sl h λt_9 h=>hk _ _ rfl h))))))))))))) λxs_2 h=>hrt _ _ h)))))
 ·refine k_nx ?_
  show (sSeq zdX (sSeq zc1 (sSeq zck (sSeq zbG (sSeq zbo (zaU)))))) _ [some (.lst t_6.2),some (.fz many_1),some (.fz (.str "abcdefghijklmnopqrstuvwxyz")),some (.fz t_5),none,none,none,none,none,none]
  refine zar @(zaP @(zmt @(k_pk rfl @(zmu @(zhE @(k_w2 @(zag @(k_c @(zag @(zas (fn:=zal) @(k_ac @(k_pk rfl @(k_ac @(zag @(k_c @(k_an @(zbj rfl @(zau @(zaJ ⟨rfl,_,_,rfl,zaq h (λt_10 h=>k_wv @(k_wv @(zfa h λt_11 h=>zhF h λi_2 h=>k_wp rfl @(k_sl h λt_12 h => ?_)))) (λx z=>hx x _ z)⟩)))))))))))))))))))
  show (sSeq zc1 (sSeq zck (sSeq zbG (sSeq zbo (zaU))))) _ [some (.lst t_10.2),some (.fz many_1),some (.fz (.str "abcdefghijklmnopqrstuvwxyz")),some t_12,none,none,none,none,none,none]
  refine zar @(zaP @(zas (fn:=zal) @(k_ac @(k_pk rfl @(k_ac @(k_fz @(k_wN @(k_ac @(k_pk rfl @(k_an @(zbn rfl @(zak @(zcz h λt_13 h=>k_an @(zbj rfl @(zau @(zaJ ⟨rfl,_,_,rfl,zaq h (λt_14 h => ?_) (λx z=>hx x _ z)⟩))))))))))))))))
  show (sSeq zck (sSeq zbG (sSeq zbo (zaU)))) _ [some (.lst t_14.2),some (.fz many_1),some (.fz (.str "abcdefghijklmnopqrstuvwxyz")),some t_12,some (.fz t_14.1),none,none,none,none,none]
  refine zar @(zaP @(k_wmt @(k_pk rfl (⟨k_wp rfl (rfl),k_ac @(zag @(k_w2 @(k_pk rfl @(k_pk rfl @(k_wp rfl @(k_wp rfl @(k_ix h λt_15 h=>k_an @(k_wp rfl @(zao @(zak @(k_six h λt_16 h => ?_)))))))))))⟩))))
  show (sSeq zbG (sSeq zbo (zaU))) _ [some (.lst t_14.2),some (.fz many_1),some (.fz (.str "abcdefghijklmnopqrstuvwxyz")),some t_12,some (.fz t_14.1),some (.fz t_16),none,none,none,none]
  refine zar @(zaP @(k_wN @(k_an @(zak @(zcA rfl rfl (?_))))))
  show (sSeq zbo (zaU)) _ [some (.lst t_14.2),some (.fz many_1),some (.fz (.str "abcdefghijklmnopqrstuvwxyz")),some t_12,some (.fz t_14.1),some (.fz t_16),some (.lst ([]:List D)),none,none,none]
  refine zar @(zfc @(zig @(k_pk rfl @(k_wp rfl @(k_r1 h λds_3 h=>zcf (λ(s_1:List D×List D) (j_1:Option M×Option M×Option M)=>[some (.lst s_1.1),some (.fz many_1),some (.fz (.str "abcdefghijklmnopqrstuvwxyz")),some t_12,some (.fz t_14.1),some (.fz t_16),some (.lst s_1.2),j_1.1,j_1.2.1,j_1.2.2]) ?_ ?_ _ (t_14.2,([]:List D)) (none,none,none) h)))))
  ·intro d_4 s_1 j_1 N S hn h
   refine g_nm (?_)
   show zhR _ [some (.lst s_1.1),some (.fz many_1),some (.fz (.str "abcdefghijklmnopqrstuvwxyz")),some t_12,some (.fz t_14.1),some (.fz t_16),some (.lst s_1.2),some (.fz d_4),j_1.2.1,j_1.2.2]
   refine zar @(zaP @(k_w2 @(k_pk rfl @(zag @(k_w2 @(zag @(k_w2 @(k_pk rfl @(zag @(k_w2 @(zag @(k_c @(k_pk rfl @(k_wv @(k_wp rfl @(zmq h λt_17 h=>k_wp rfl @(k_wv @(zfa h λt_18 h=>zag @(k_c @(k_wv @(k_wv @(zrs h λt_19 h=>k_wp rfl @(k_wv @(k_ix h λt_20 h => ?_))))))))))))))))))))))))
   show (sSeq zf9 (zcl)) _ [some (.lst s_1.1),some (.fz many_1),some (.fz (.str "abcdefghijklmnopqrstuvwxyz")),some t_12,some (.fz t_14.1),some (.fz t_16),some (.lst s_1.2),some (.fz d_4),some (.fz t_20),j_1.2.2]
   refine zar @(zaP @(k_w2 @(zag @(zmt @(k_pk rfl @(zhE @(k_w2 @(k_pk rfl @(zag @(k_c @(k_wp rfl @(k_wv @(zfa h λt_21 h=>zhF h λi_3 h=>zmu @(k_wp rfl @(k_sl h λt_22 h=>zag @(k_w2 @(zag @(k_c @(zag @(k_wN @(k_ac @(zag @(k_w2 @(zag @(zas (fn:=zal) @(k_ac @(k_pk rfl @(k_ac @(zag @(k_c @(k_an @(zbj rfl @(zau @(zaJ ⟨rfl,_,_,rfl,zaq h (λt_23 h=>zag @(k_c @(k_wv @(k_wv @(k_eq h λt_24 h=>k_an @(zao @(zak @(zql h λt_25 h=>k_wv @(k_wv @(zwg h λt_26 h=>k_wv @(k_wv @(zfa h λt_27 h => ?_)))))))))))) (λx z=>hx x _ z)⟩))))))))))))))))))))))))))))))))))
   try with_reducible show zcl _ _
   show zcl _ [some (.lst t_23.2),some (.fz many_1),some (.fz (.str "abcdefghijklmnopqrstuvwxyz")),some t_12,some (.fz t_14.1),some (.fz t_16),some (.lst s_1.2),some (.fz d_4),some (.fz t_20),some t_27]
   refine zcB @(zeE rfl rfl @(k_ac @(k_fz @(k_w2 @(zag @(k_w2 @(zag @(zmt @(k_pk rfl @(zmu @(zhE @(zam rfl @(zhF h λi_4 h=>k_wp rfl @(k_sl h λt_28 h=>k_pk rfl @(k_wv @(k_wp rfl @(zfa h λt_29 h=>k_pk rfl @(k_wv @(k_wp rfl @(zfa h λt_30 h=>k_an @(zeF rfl rfl @(zao @(zak @(zfZ h λsome_1 h => ?_))))))))))))))))))))))))
   exact hn (t_23.2,some_1) ((some (.fz d_4)),(some (.fz t_20)),(some t_27)) h
  ·intro s_2 j_2 h
   try with_reducible show zaU _ _
   show zaU _ [some (.lst s_2.1),some (.fz many_1),some (.fz (.str "abcdefghijklmnopqrstuvwxyz")),some t_12,some (.fz t_14.1),some (.fz t_16),some (.lst s_2.2),j_2.1,j_2.2.1,j_2.2.2]
   refine ziT rfl (?_)
   exact hrt _ _ h
def ziY:WS:=sSet 1 (zaI zes (zae (oPk 0) (zae (oFz (w2 zcb (oVal (wC (.int 1))) (oVal (zaI zal (zae (oPk 0) (zae (oVal (wC (.int 2))) (aNil))))))) (aNil))))
def zga:WS:=sSet 2 (wN zbR (aNil))
def zhS:WS:=zee (wMut "list" zgw 2 (zae (oVal (wN zbR (zae (oFz (wN zbr (zae (oFz (wN zbr (zae (oFz (wVar 3)) (zae (oVal (wC (.str "+"))) (aNil))))) (aNil)))) (zae (oFz (wN zbr (zae (oFz (wN zbr (zae (oFz (wVar 3)) (zae (oVal (wC (.str "-"))) (aNil))))) (aNil)))) (aNil))))) (aNil)))
def zeX:WS:=sFor (iSeq (wVar 1)) (.nm 3)
 (zhS)
def zkH:WS:=sSet 5 (wN zbR (aNil))
def zhT:WS:=sSet 3 (w2 opIx (oPk 1) (oVal (zaI zal (zae (oPk 0) (zae (oFz (wN zcc (zae (oPk 1) (aNil)))) (aNil))))))
def zbZ:WS:=zee (wMut "list" za8 5 (zae (oFz (wN zbr (zae (oFz (wVar 3)) (zae (oFz (w2 opIx (oVal (wC (.str "+-"))) (oVal (zaI zal (zae (oPk 0) (zae (oVal (wC (.int 2))) (aNil))))))) (aNil))))) (aNil)))
def zfQ:WS:=sSeq (zhT) (zbZ)
def zgb:WS:=sFor (iR1 (oVal (w2 zcb (oVal (w2 zcb (oVal (wC (.int 1))) (oVal (wN zlx (zae (oVal (w2 (opEq false) (oPk 4) (oVal (wC (.int 0))))) (aNil)))))) (oVal (zaI zal (zae (oPk 0) (zae (oFz (w2 zk5 (oVal (wC (.int 3))) (oVal (wN zlx (zae (oVal (w2 (opEq false) (oPk 4) (oVal (wC (.int 0))))) (aNil)))))) (aNil)))))))) (.nm 6)
 (zfQ)
def zcm:WS:=zee (wMut "list" za8 2 (zae (oFz (wN zde (zae (oPk 5) (aNil)))) (aNil)))
def zhU:WS:=sSeq (zkH) (sSeq (zgb) (zcm))
def zdY:WS:=sFor (iR1 (oVal (w2 zcb (oVal (wC (.int 1))) (oVal (zaI zal (zae (oPk 0) (zae (oFz (w2 zk5 (oVal (wC (.int 8))) (oVal (wN zcc (zae (oPk 2) (aNil)))))) (aNil)))))))) (.nm 4)
 (zhU)
def zbH:WS:=sRet (oVal (wN zde (zae (oVal (wN zfk (zae (oVal (wLz (oVal (zaI zes (zae (oPk 0) (zae (oFz (wN zcc (zae (oPk 2) (aNil)))) (aNil))))) (oPk 2))) (aNil)))) (aNil))))
def zlM:WS:=sSeq (ziY) (sSeq (zga) (sSeq (zeX) (sSeq (zdY) (zbH))))
abbrev zpq:Type:=D×List D
def zek (d_1:D) (s_1:List D):R (List D) :=
 R.bind (nExt s_1 (.lst [(.tup [(.tup [d_1,(.str "+")])]),(.tup [(.tup [d_1,(.str "-")])])])) λrows_1 =>
 .ok rows_1
def zel (t_3:List D×List D) (d_3:D) (s_4:List D×List D):R (List D×List D) :=
 R.bind (nLen (.lst t_3.1)) λt_16 =>
 R.bind (zaw s_4.1 t_16) λt_17 =>
 R.bind (nIx (.lst t_3.1) t_17.1) λt_18 =>
 R.bind (zaw t_17.2 (.int 2)) λt_19 =>
 R.bind (nIx (.str "+-") t_19.1) λt_20 =>
 R.bind (nApp s_4.2 (.tup [t_18,t_20])) λports_1 =>
 .ok (t_19.2,ports_1)
def zem (t_3:List D×List D) (d_2:D) (s_3:List D×List D):R (List D×List D) :=
 R.bind (nEq false d_2 (.int 0)) λt_8 =>
 R.bind (zk6 (.bl t_8)) λt_9 =>
 R.bind (nAdd (.int 1) t_9) λt_10 =>
 R.bind (nEq false d_2 (.int 0)) λt_11 =>
 R.bind (zk6 (.bl t_11)) λt_12 =>
 R.bind (nSub (.int 3) t_12) λt_13 =>
 R.bind (zaw s_3.1 t_13) λt_14 =>
 R.bind (nAdd t_10.d t_14.1) λt_15 =>
 R.bind (nR1 t_15.d) λds_3 =>
 R.bind (R.forS (zel t_3) ds_3 (t_14.2,([]:List D))) λs_5 =>
 R.bind (zcy (.lst s_5.2)) λt_21 =>
 R.bind (nApp s_3.2 t_21) λrows_2 =>
 .ok (s_5.1,rows_2)
@[irreducible] def zfo (held_1:List D):R (zpq) :=
  R.bind (zaw held_1 (.int 2)) λt_1 =>
  R.bind (nAdd (.int 1) t_1.1) λt_2 =>
  R.bind (zeq t_1.2 t_2.d) λt_3 =>
  R.bind (zcX (.lst t_3.1)) λds_1 =>
  R.bind (R.forS (zek) ds_1 ([]:List D)) λs_2 =>
  R.bind (nLen (.lst s_2)) λt_4 =>
  R.bind (nSub (.int 8) t_4) λt_5 =>
  R.bind (zaw t_3.2 t_5) λt_6 =>
  R.bind (nAdd (.int 1) t_6.1) λt_7 =>
  R.bind (nR1 t_7.d) λds_2 =>
  R.bind (R.forS (zem t_3) ds_2 (t_6.2,s_2)) λs_6 =>
  R.bind (nLen (.lst s_6.2)) λt_22 =>
  R.bind (zeq s_6.1 t_22) λt_23 =>
  R.bind (nLz (.lst t_23.1) (.lst s_6.2)) λt_24 =>
  R.bind (zdM (.lst t_24)) λt_25 =>
  R.bind (zcy (.lst t_25)) λt_26 =>
  .ok (t_26,t_23.2)
abbrev zhf (ms:List M) (Q:M->En->Prop) (X:Xn->Prop):Prop:=∃ (held_1:List D),ms=[(.lst held_1)]/\(zfo held_1).post (λr=>Q (M.fz r.1) [some (.lst r.2)]) X
abbrev zgC:Fn:=⟨1,[0],zhf⟩
theorem zmX:zbm zhf:=λms Q Q' X X' hq hx ⟨held_1,e,h⟩=>⟨held_1,e,zay h (λ_ h=>hq _ _ h) hx⟩
theorem zr2 (ms:List M) (Q:M->En->Prop) (X:Xn->Prop) (h:zhf ms Q X):wFn 7 1 [0] zlM ms Q X:=by
 obtain ⟨held_1,rfl,h⟩:=h
 unfold zfo at h
 refine zbk (e0:=[some (.lst held_1),none,none,none,none,none,none]) rfl λE hrt hnx hx => ?_
 show (sSeq ziY (sSeq zga (sSeq zeX (sSeq zdY (zbH))))) _ _
 refine zar @(zaP @(zas (fn:=zes) @(k_ac @(k_pk rfl @(k_ac @(k_fz @(k_w2 @(zag @(k_c @(zag @(zas (fn:=zal) @(k_ac @(k_pk rfl @(k_ac @(zag @(k_c @(k_an @(zbj rfl @(zau @(zaJ ⟨rfl,_,_,rfl,zaq h (λt_1 h=>k_wv @(k_wv @(zfa h λt_2 h=>k_an @(zbj rfl @(zau @(zaJ ⟨rfl,_,_,rfl,zaq h (λt_3 h => ?_) (λx z=>hx x _ z)⟩)))))) (λx z=>hx x _ z)⟩))))))))))))))))))))
 show (sSeq zga (sSeq zeX (sSeq zdY (zbH)))) _ [some (.lst t_3.2),some (.lst t_3.1),none,none,none,none,none]
 refine zar @(zaP @(k_wN @(k_an @(zak @(zcA rfl rfl (?_))))))
 show (sSeq zeX (sSeq zdY (zbH))) _ [some (.lst t_3.2),some (.lst t_3.1),some (.lst ([]:List D)),none,none,none,none]
 refine zar @(zfc @(zdy @(zms rfl @(zcV h λds_1 h=>zcf (λ(s_1:List D) (j_1:Option M)=>[some (.lst t_3.2),some (.fz (.lst t_3.1)),some (.lst s_1),j_1,none,none,none]) ?_ ?_ _ ([]:List D) none h))))
 ·intro d_1 s_1 j_1 N S hn h
  refine g_nm (?_)
  show zhS _ [some (.lst t_3.2),some (.fz (.lst t_3.1)),some (.lst s_1),some (.fz d_1),none,none,none]
  refine zcB @(zeE rfl rfl @(k_ac @(zag @(zka (λQ hq=>k_wN @(k_ac @(k_fz @(k_wN @(k_ac @(k_fz @(zka (λQ hq=>k_wN @(k_ac @(k_fz @(zam rfl @(k_ac @(zag @(k_c @(k_an @(zao @(zao @(zak @(zce rfl rfl hq)))))))))))) @(k_an @(zao @(zak @(zce rfl rfl @(k_ac @(k_fz @(k_wN @(k_ac @(k_fz @(zka (λQ hq=>k_wN @(k_ac @(k_fz @(zam rfl @(k_ac @(zag @(k_c @(k_an @(zao @(zao @(zak @(zce rfl rfl hq)))))))))))) @(k_an @(zao @(zak @(zce rfl rfl @(k_an @(zao @(zao @(zak @(zcA rfl rfl hq)))))))))))))))))))))))))) @(k_an @(zeF rfl rfl @(zao @(zak @(zyz h λrows_1 h => ?_)))))))))
  exact hn rows_1 (some (.fz d_1)) h
 ·intro s_2 j_2 h
  show (sSeq zdY (zbH)) _ [some (.lst t_3.2),some (.fz (.lst t_3.1)),some (.lst s_2),j_2,none,none,none]
  refine zar @(zfc @(zig @(zag @(k_w2 @(zag @(k_c @(zag @(zas (fn:=zal) @(k_ac @(k_pk rfl @(k_ac @(k_fz @(k_w2 @(zag @(k_c @(zag @(k_wN @(k_ac @(k_pk rfl @(k_an @(zbn rfl @(zak @(zcz h λt_4 h=>k_wv @(k_wv @(znC h λt_5 h=>k_an @(zbj rfl @(zau @(zaJ ⟨rfl,_,_,rfl,zaq h (λt_6 h=>k_wv @(k_wv @(zfa h λt_7 h=>k_wv @(k_r1 h λds_2 h=>zcf (λ(s_3:List D×List D) (j_3:Option M×Option M×Option M×Option M)=>[some (.lst s_3.1),some (.fz (.lst t_3.1)),some (.lst s_3.2),j_3.1,j_3.2.1,j_3.2.2.1,j_3.2.2.2]) ?_ ?_ _ (t_6.2,s_2) (j_2,none,none,none) h)))) (λx z=>hx x _ z)⟩))))))))))))))))))))))))))))
  ·intro d_2 s_3 j_3 N S hn h
   refine g_nm (?_)
   show zhU _ [some (.lst s_3.1),some (.fz (.lst t_3.1)),some (.lst s_3.2),j_3.1,some (.fz d_2),j_3.2.2.1,j_3.2.2.2]
   refine zar @(zaP @(k_wN @(k_an @(zak @(zcA rfl rfl (?_))))))
   show (sSeq zgb (zcm)) _ [some (.lst s_3.1),some (.fz (.lst t_3.1)),some (.lst s_3.2),j_3.1,some (.fz d_2),some (.lst ([]:List D)),j_3.2.2.2]
   refine zar @(zfc @(zig @(zag @(k_w2 @(zag @(k_w2 @(zag @(k_c @(zag @(k_wN @(k_ac @(zag @(k_w2 @(k_pk rfl @(zag @(k_c @(k_wp rfl @(k_wv @(k_eq h λt_8 h=>k_an @(zao @(zak @(zql h λt_9 h=>k_wv @(k_wv @(zfa h λt_10 h=>zag @(zas (fn:=zal) @(k_ac @(k_pk rfl @(k_ac @(k_fz @(k_w2 @(zag @(k_c @(zag @(k_wN @(k_ac @(zag @(k_w2 @(k_pk rfl @(zag @(k_c @(k_wp rfl @(k_wv @(k_eq h λt_11 h=>k_an @(zao @(zak @(zql h λt_12 h=>k_wv @(k_wv @(znC h λt_13 h=>k_an @(zbj rfl @(zau @(zaJ ⟨rfl,_,_,rfl,zaq h (λt_14 h=>k_wv @(k_wv @(zfa h λt_15 h=>k_wv @(k_r1 h λds_3 h=>zcf (λ(s_4:List D×List D) (j_4:Option M×Option M)=>[some (.lst s_4.1),some (.fz (.lst t_3.1)),some (.lst s_3.2),j_4.1,some (.fz d_2),some (.lst s_4.2),j_4.2]) ?_ ?_ _ (t_14.2,([]:List D)) (j_3.1,j_3.2.2.2) h)))) (λx z=>hx x _ z)⟩)))))))))))))))))))))))))))))))))))))))))))))))))))
   ·intro d_3 s_4 j_4 N S hn h
    refine g_nm (?_)
    show zfQ _ [some (.lst s_4.1),some (.fz (.lst t_3.1)),some (.lst s_3.2),j_4.1,some (.fz d_2),some (.lst s_4.2),some (.fz d_3)]
    refine zar @(zaP @(k_w2 @(k_pk rfl @(zag @(zas (fn:=zal) @(k_ac @(k_pk rfl @(k_ac @(k_fz @(k_wN @(k_ac @(k_pk rfl @(k_an @(zbn rfl @(zak @(zcz h λt_16 h=>k_an @(zbj rfl @(zau @(zaJ ⟨rfl,_,_,rfl,zaq h (λt_17 h=>k_wp rfl @(k_wv @(k_ix h λt_18 h => ?_))) (λx z=>hx x _ z)⟩)))))))))))))))))))
    try with_reducible show zbZ _ _
    show zbZ _ [some (.lst t_17.2),some (.fz (.lst t_3.1)),some (.lst s_3.2),some (.fz t_18),some (.fz d_2),some (.lst s_4.2),some (.fz d_3)]
    refine zcB @(zeE rfl rfl @(k_ac @(k_fz @(k_wN @(k_ac @(k_fz @(zam rfl @(k_ac @(k_fz @(k_w2 @(zag @(k_c @(zag @(zas (fn:=zal) @(k_ac @(k_pk rfl @(k_ac @(zag @(k_c @(k_an @(zbj rfl @(zau @(zaJ ⟨rfl,_,_,rfl,zaq h (λt_19 h=>k_wv @(k_wv @(k_ix h λt_20 h=>k_an @(zao @(zao @(zak @(zce rfl rfl @(k_an @(zeF rfl rfl @(zao @(zak @(zfZ h λports_1 h => ?_)))))))))))) (λx z=>hx x _ z)⟩)))))))))))))))))))))))
    exact hn (t_19.2,ports_1) ((some (.fz t_18)),(some (.fz d_3))) h
   ·intro s_5 j_5 h
    try with_reducible show zcm _ _
    show zcm _ [some (.lst s_5.1),some (.fz (.lst t_3.1)),some (.lst s_3.2),j_5.1,some (.fz d_2),some (.lst s_5.2),j_5.2]
    refine zcB @(zeE rfl rfl @(k_ac @(k_fz @(k_wN @(k_ac @(k_pk rfl @(k_an @(zbn rfl @(zak @(zeD h λt_21 h=>k_an @(zeF rfl rfl @(zao @(zak @(zfZ h λrows_2 h => ?_))))))))))))))
    exact hn (s_5.1,rows_2) (j_5.1,(some (.fz d_2)),(some (.lst s_5.2)),j_5.2) h
  ·intro s_6 j_6 h
   try with_reducible show zbH _ _
   show zbH _ [some (.lst s_6.1),some (.fz (.lst t_3.1)),some (.lst s_6.2),j_6.1,j_6.2.1,j_6.2.2.1,j_6.2.2.2]
   refine za1 @(k_wN @(k_ac @(zag @(k_wN @(k_ac @(zag @(k_wlz @(zag @(zas (fn:=zes) @(k_ac @(k_pk rfl @(k_ac @(k_fz @(k_wN @(k_ac @(k_pk rfl @(k_an @(zbn rfl @(zak @(zcz h λt_22 h=>k_an @(zbj rfl @(zau @(zaJ ⟨rfl,_,_,rfl,zaq h (λt_23 h=>k_pk rfl @(k_wv @(k_wp rfl @(k_lz h λt_24 h=>k_an @(zao @(zak @(zj9 h λt_25 h=>k_an @(zao @(zak @(zeD h λt_26 h=>hrt _ _ h)))))))))) (λx z=>hx x _ z)⟩)))))))))))))))))))))))
def zop:WS:=sRet (oVal (wLc (iR1 (oVal (wN zcc (zae (oPk 0) (aNil))))) (.nm 2) (tVal (w2 (opEq false) (oVal (w2 opIx (oVal (w2 opIx (oPk 0) (oPk 2))) (oVal (wC (.int 1))))) (oVal (zaI zcK (zae (oFz (wVar 1)) (aNil)))))) (wVar 2) [2]))
abbrev zr3:Type:=List D×List D
@[irreducible] def zfp (free_1:List D) (spec_1:D):R (zr3) :=
  R.bind (nLen (.lst free_1)) λt_1 =>
  R.bind (nR1 t_1) λds_1 =>
  R.bind (lcF (λd_1:D=>R.bind (nIx (.lst free_1) d_1) λt_2 =>
  R.bind (nIx t_2 (.int 1)) λt_3 =>
  R.bind (zcJ spec_1) λt_4 =>
  R.bind (nEq false t_3 t_4) λt_5 =>
  if t_5=true then (.ok ((some d_1)):R (Option D)) else .ok none) ds_1) λxs_1 =>
  .ok (xs_1,free_1)
abbrev ziz (ms:List M) (Q:M->En->Prop) (X:Xn->Prop):Prop:=∃ (free_1:List D) (spec_1:D),ms=[(.lst free_1),(.fz spec_1)]/\(zfp free_1 spec_1).post (λr=>Q (M.lst r.1) [some (.lst r.2),none]) X
abbrev zeL:Fn:=⟨2,[0],ziz⟩
theorem zoq:zbm ziz:=λms Q Q' X X' hq hx ⟨free_1,spec_1,e,h⟩=>⟨free_1,spec_1,e,zay h (λ_ h=>hq _ _ h) hx⟩
theorem zuu (ms:List M) (Q:M->En->Prop) (X:Xn->Prop) (h:ziz ms Q X):wFn 3 2 [0] zop ms Q X:=by
 obtain ⟨free_1,spec_1,rfl,h⟩:=h
 unfold zfp at h
 refine zbk (e0:=[some (.lst free_1),some (.fz spec_1),none]) rfl λE hrt hnx hx => ?_
 refine za1 @(k_lc @(zig @(zag @(k_wN @(k_ac @(k_pk rfl @(k_an @(zbn rfl @(zak @(zcz h λt_1 h=>k_wv @(k_r1 h λds_1 h=>zo9 h (λd_1 S KK K0 hk h0 h=>g_nm @(zpa @(zaN @(k_w2 @(zag @(k_w2 @(zag @(k_w2 @(k_pk rfl @(k_pk rfl @(k_wp rfl @(k_wp rfl @(k_ix h λt_2 h=>zag @(k_c @(k_wv @(k_wv @(k_ix h λt_3 h=>zag @(zas (fn:=zcK) @(k_ac @(k_fz @(zam rfl @(k_an @(zau @(zaJ ⟨rfl,_,rfl,zaq h (λt_4 h=>k_wv @(k_wv @(k_eq h λt_5 h=>j_tv @(zpb h (λh=>zam rfl (hk _ _ rfl h)) (λh=>h0 _ rfl h))))) (λ_ z=>z.elim)⟩)))))))))))))))))))))))) λxs_1 h=>hrt _ _ h)))))))))))
def ziZ:WS:=sSet 3 (wN zlo (zae (oPk 3) (aNil)))
def zgc:WS:=sSet 4 (wN zbR (aNil))
def zeY:WS:=sSet 5 (w2 zcb (oVal (wLc (iEn (wVar 2)) (.tp [.nm 9,.nm 7]) (zd5) (wN zbr (zae (oFz (wN zbr (zae (oFz (w1 zoZ (oVal (wC (.int 1))))) (zae (oFz (wVar 9)) (aNil))))) (zae (oFz (wVar 7)) (aNil)))) [9,7])) (oVal (zaI zeg (zae (oFz (wVar 1)) (zae (oPk 3) (zae (oVal (wN zbR (aNil))) (aNil)))))))
def zkI:WS:=sAsg (.tp [.nm 6,.nm 7]) (wMut "list" zhB 5 (zae (oFz (zaI zal (zae (oPk 0) (zae (oFz (wN zcc (zae (oPk 5) (aNil)))) (aNil))))) (aNil)))
def zgd:WS:=sSet 8 (zaI zeL (zae (oPk 5) (zae (oFz (wVar 7)) (aNil))))
def zhV:WS:=zee (wMut "list" za8 4 (zae (oFz (wN zbr (zae (oFz (wVar 6)) (zae (oFz (wN zbr (zae (oFz (wN zcc (zae (oPk 3) (aNil)))) (zae (oVal (wC (.int 0))) (aNil))))) (aNil))))) (aNil)))
def zb0:WS:=zee (wMut "list" za8 3 (zae (oFz (w2 opIx (oVal (wLc (iSeq (wVar 1)) (.tp [.nm 10,.nm 11]) (tVal (w2 (opEq false) (oPk 11) (oVal (wN zbr (zae (oFz (zaI zcK (zae (oFz (wVar 7)) (aNil)))) (aNil)))))) (wVar 10) [10,11])) (oVal (wC (.int 0))))) (aNil)))
def zfR:WS:=sSeq (zhV) (zb0)
def zcn:WS:=sIf (zk4 (tVal (w2 (opEq true) (oPk 8) (oVal (wN zbR (aNil))))) (tVal (w2 (zfW .gt) (oVal (zaI zal (zae (oPk 0) (zae (oVal (wC (.int 5))) (aNil))))) (oVal (wC (.int 0))))))
 (zee (wMut "list" za8 4 (zae (oFz (wN zbr (zae (oFz (wVar 6)) (zae (oFz (w2 opIx (oVal (wMut "list" zhB 5 (zae (oFz (w2 opIx (oPk 8) (oVal (zaI zal (zae (oPk 0) (zae (oFz (wN zcc (zae (oPk 8) (aNil)))) (aNil))))))) (aNil)))) (oVal (wC (.int 0))))) (aNil))))) (aNil))))
 (zfR)
def zhW:WS:=sSeq (zkI) (sSeq (zgd) (zcn))
def zdZ:WS:=zhv (tVal (w2 (opEq true) (oPk 5) (oVal (wN zbR (aNil)))))
 (zhW)
def zbI:WS:=sRet (oVal (wN zbr (zae (oFz (wN zde (zae (oPk 2) (aNil)))) (zae (oFz (wN zde (zae (oPk 3) (aNil)))) (zae (oFz (zaI zeK (zae (oFz (wVar 4)) (aNil)))) (zae (oFz (wN zbr (aNil))) (aNil)))))))
def zlN:WS:=sSeq (ziZ) (sSeq (zgc) (sSeq (zeY) (sSeq (zdZ) (zbI))))
abbrev zhg:Type:=D×List D
def zdm (stock_1:D) (s_1:List D×List D×List D×List D) (K A:(List D×List D×List D×List D)->R (zhg)):R (zhg) :=
 R.bind (nEq true (.lst s_1.2.2.2) (.lst ([]:List D))) λt_5 =>
 if t_5=true then
 R.bind (nLen (.lst s_1.2.2.2)) λt_6 =>
 R.bind (zaw s_1.1 t_6) λt_7 =>
 R.bind (nPop s_1.2.2.2 t_7.1) λt_8 =>
 R.bind (nUn2 t_8.1) λp_2 =>
 R.bind (zfp t_8.2 p_2.2) λt_9 =>
 R.bind (nEq true (.lst t_9.1) (.lst ([]:List D))) λt_10 =>
 R.bind (if t_10=true then (R.bind (zaw t_7.2 (.int 5)) λt_11=>R.bind (nOrd .gt t_11.1 (.int 0)) λt_12=>.ok ((t_12,t_11.2)):R (Bool×List D)) else .ok ((false,t_7.2))) λc_1 =>
 if c_1.1=true then
 R.bind (nLen (.lst t_9.1)) λt_13 =>
 R.bind (zaw c_1.2 t_13) λt_14 =>
 R.bind (nIx (.lst t_9.1) t_14.1) λt_15 =>
 R.bind (nPop t_9.2 t_15) λt_16 =>
 R.bind (nIx t_16.1 (.int 0)) λt_17 =>
 R.bind (nApp s_1.2.2.1 (.tup [p_2.1,t_17])) λpairs_1 =>
 K (t_14.2,s_1.2.1,pairs_1,t_16.2)
 else
 R.bind (nLen (.lst s_1.2.1)) λt_18 =>
 R.bind (nApp s_1.2.2.1 (.tup [p_2.1,(.tup [t_18,(.int 0)])])) λpairs_2 =>
 R.bind (zcX stock_1) λds_2 =>
 R.bind (lcF (λd_2:D=>R.bind (nUn2 d_2) λp_3 =>
 R.bind (zcJ p_2.2) λt_19 =>
 R.bind (nEq false p_3.2 (.tup [t_19])) λt_20 =>
 if t_20=true then (.ok ((some p_3.1)):R (Option D)) else .ok none) ds_2) λxs_2 =>
 R.bind (nIx (.lst xs_2) (.int 0)) λt_21 =>
 R.bind (nApp s_1.2.1 t_21) λboxes_2 =>
 K (c_1.2,boxes_2,pairs_2,t_9.2)
 else A s_1
@[irreducible] def zfq (held_1:List D) (stock_1:D) (outers_1:D) (boxes_1:D):R (zhg) :=
  R.bind (zro boxes_1) λt_1 =>
  R.bind (zmz outers_1) λds_1 =>
  R.bind (lcM (λd_1:D=>R.bind (nUn2 d_1) λp_1=>R.bind (nNeg (.int 1)) λt_2=>.ok ((.tup [(.tup [t_2,p_1.1]),p_1.2]))) ds_1) λxs_1 =>
  R.bind (zdO stock_1 (.lst t_1) (.lst ([]:List D))) λt_3 =>
  R.bind (zii (.lst xs_1) (.lst t_3)) λt_4 =>
  R.whileN (zdm stock_1) (λ(s_2:List D×List D×List D×List D) =>
  R.bind (zcy outers_1) λt_22 =>
  R.bind (zcy (.lst s_2.2.1)) λt_23 =>
  R.bind (zdW (.lst s_2.2.2.1)) λt_24 =>
  .ok ((.tup [t_22,t_23,t_24,(.tup [])]),s_2.1)) most (held_1,t_1,([]:List D),t_4)
abbrev zhh (ms:List M) (Q:M->En->Prop) (X:Xn->Prop):Prop:=∃ (held_1:List D) (stock_1:D) (outers_1:D) (boxes_1:D),ms=[(.lst held_1),(.fz stock_1),(.fz outers_1),(.fz boxes_1)]/\(zfq held_1 stock_1 outers_1 boxes_1).post (λr=>Q (M.fz r.1) [some (.lst r.2),none,none,none]) X
abbrev zgD:Fn:=⟨4,[0],zhh⟩
theorem zmY:zbm zhh:=λms Q Q' X X' hq hx ⟨held_1,stock_1,outers_1,boxes_1,e,h⟩=>⟨held_1,stock_1,outers_1,boxes_1,e,zay h (λ_ h=>hq _ _ h) hx⟩
theorem zr4 (ms:List M) (Q:M->En->Prop) (X:Xn->Prop) (h:zhh ms Q X):wFn 12 4 [0] zlN ms Q X:=by
 obtain ⟨held_1,stock_1,outers_1,boxes_1,rfl,h⟩:=h
 unfold zfq at h
 refine zbk (e0:=[some (.lst held_1),some (.fz stock_1),some (.fz outers_1),some (.fz boxes_1),none,none,none,none,none,none,none,none]) rfl λE hrt hnx hx => ?_
 show (sSeq ziZ (sSeq zgc (sSeq zeY (sSeq zdZ (zbI))))) _ _
 refine zar @(zaP @(k_wN @(k_ac @(k_pk rfl @(k_an @(zbn rfl @(zak @(zs2 h λt_1 h => ?_))))))))
 show (sSeq zgc (sSeq zeY (sSeq zdZ (zbI)))) _ [some (.lst held_1),some (.fz stock_1),some (.fz outers_1),some (.lst t_1),none,none,none,none,none,none,none,none]
 refine zar @(zaP @(k_wN @(k_an @(zak @(zcA rfl rfl (?_))))))
 show (sSeq zeY (sSeq zdZ (zbI))) _ [some (.lst held_1),some (.fz stock_1),some (.fz outers_1),some (.lst t_1),some (.lst ([]:List D)),none,none,none,none,none,none,none]
 refine zar @(zaP @(k_w2 @(zag @(k_lc @(zmA @(zam rfl @(zls h λds_1 h=>zg7 h (λd_1 S KK hk h=>zbF h λp_1 h=>zaB @(g_nm @(zaB @(g_nm @(zdB @(k_wN @(k_ac @(k_fz @(k_wN @(k_ac @(k_fz @(k_w1 @(zag @(k_c @(k_wv @(zsZ h λt_2 h=>k_ac @(k_fz @(zam rfl @(k_an @(zao @(zao @(zak @(zce rfl rfl @(k_ac @(k_fz @(zam rfl @(k_an @(zao @(zao @(zak @(zce rfl rfl (hk _ _ rfl h)))))))))))))))))))))))))))))))) λxs_1 h=>zag @(zas (fn:=zeg) @(k_ac @(k_fz @(zam rfl @(k_ac @(k_pk rfl @(k_ac @(zag @(k_wN @(k_an @(zak @(zcA rfl rfl @(k_an @(zau @(zbj rfl @(zau @(zaJ ⟨rfl,_,_,_,rfl,zaq h (λt_3 h=>k_wv @(k_wv @(znH h λt_4 h => ?_))) (λx z=>hx x _ z)⟩))))))))))))))))))))))))
 show (sSeq zdZ (zbI)) _ [some (.lst held_1),some (.fz stock_1),some (.fz outers_1),some (.lst t_1),some (.lst ([]:List D)),some (.lst t_4),none,none,none,none,none,none]
 refine zar @(zhH (λ(s_1:List D×List D×List D×List D) (j_1:Option M×Option M×Option M)=>[some (.lst s_1.1),some (.fz stock_1),some (.fz outers_1),some (.lst s_1.2.1),some (.lst s_1.2.2.1),some (.lst s_1.2.2.2),j_1.1,j_1.2.1,j_1.2.2,none,none,none]) (λs_2 j_2 h => ?_) (λha => ?_) most (held_1,t_1,([]:List D),t_4) (none,none,none) h)
 ·try with_reducible show zbI _ _
  show zbI _ [some (.lst s_2.1),some (.fz stock_1),some (.fz outers_1),some (.lst s_2.2.1),some (.lst s_2.2.2.1),some (.lst s_2.2.2.2),j_2.1,j_2.2.1,j_2.2.2,none,none,none]
  refine za1 @(k_wN @(k_ac @(k_fz @(k_wN @(k_ac @(k_pk rfl @(k_an @(zbn rfl @(zak @(zeD h λt_22 h=>k_ac @(k_fz @(k_wN @(k_ac @(k_pk rfl @(k_an @(zbn rfl @(zak @(zeD h λt_23 h=>k_ac @(k_fz @(zas (fn:=zeK) @(k_ac @(k_fz @(zms rfl @(k_an @(zau @(zaJ ⟨rfl,_,rfl,zaq h (λt_24 h=>k_ac @(k_fz @(k_wN @(k_an @(zak @(zce rfl rfl @(k_an @(zao @(zao @(zao @(zao @(zak @(zce rfl rfl (hrt _ _ h)))))))))))))) (λx z=>hx x _ z)⟩))))))))))))))))))))))))))
 ·intro s_1 j_1 N K hn h
  refine zaN @(k_w2 @(k_pk rfl @(zag @(k_wN @(k_an @(zak @(zcA rfl rfl @(k_wp rfl @(k_wv @(k_eq h λt_5 h=>j_tv @(zs6 h (λh => ?_) (λh => ?_))))))))))))
  ·show zhW _ [some (.lst s_1.1),some (.fz stock_1),some (.fz outers_1),some (.lst s_1.2.1),some (.lst s_1.2.2.1),some (.lst s_1.2.2.2),j_1.1,j_1.2.1,j_1.2.2,none,none,none]
   refine zar @(zs4 @(zeE rfl rfl @(k_ac @(k_fz @(zas (fn:=zal) @(k_ac @(k_pk rfl @(k_ac @(k_fz @(k_wN @(k_ac @(k_pk rfl @(k_an @(zbn rfl @(zak @(zcz h λt_6 h=>k_an @(zbj rfl @(zau @(zaJ ⟨rfl,_,_,rfl,zaq h (λt_7 h=>k_an @(zeF rfl rfl @(zao @(zak @(znG h λt_8 h=>zbF h λp_2 h=>zaB @(g_nm @(zaB @(g_nm @(zdB (?_)))))))))) (λx z=>hx x _ z)⟩)))))))))))))))))))
   show (sSeq zgd (zcn)) _ [some (.lst t_7.2),some (.fz stock_1),some (.fz outers_1),some (.lst s_1.2.1),some (.lst s_1.2.2.1),some (.lst t_8.2),some (.fz p_2.1),some (.fz p_2.2),j_1.2.2,none,none,none]
   refine zar @(zaP @(zas (fn:=zeL) @(k_ac @(k_pk rfl @(k_ac @(k_fz @(zam rfl @(k_an @(zbj rfl @(zau @(zaJ ⟨rfl,_,_,rfl,zaq h (λt_9 h => ?_) (λx z=>hx x _ z)⟩)))))))))))
   try with_reducible show zcn _ _
   show zcn _ [some (.lst t_7.2),some (.fz stock_1),some (.fz outers_1),some (.lst s_1.2.1),some (.lst s_1.2.2.1),some (.lst t_9.2),some (.fz p_2.1),some (.fz p_2.2),some (.lst t_9.1),none,none,none]
   refine zeT @(zj1 @(zaN @(k_w2 @(k_pk rfl @(zag @(k_wN @(k_an @(zak @(zcA rfl rfl @(k_wp rfl @(k_wv @(k_eq h λt_10 h=>j_tv @(zj2 (λ(v:Bool×List D)=>v.1) (λ(v:Bool×List D)=>[some (.lst v.2),some (.fz stock_1),some (.fz outers_1),some (.lst s_1.2.1),some (.lst s_1.2.2.1),some (.lst t_9.2),some (.fz p_2.1),some (.fz p_2.2),some (.lst t_9.1),none,none,none]) h (λJ2 h=>zaN @(k_w2 @(zag @(zas (fn:=zal) @(k_ac @(k_pk rfl @(k_ac @(zag @(k_c @(k_an @(zbj rfl @(zau @(zaJ ⟨rfl,_,_,rfl,zaq (asc h) (λt_11 h=>zag @(k_c @(k_wv @(k_wv @(zji (asc h) λt_12 h=>j_tv (J2 (t_12,t_11.2) h)))))) (λx z=>hx x _ z)⟩))))))))))))) (λJ2 h=>J2 (false,t_7.2) h) (λc_1 h=>zfb h (λh => ?_) (λh => ?_)))))))))))))))
   ·refine zcB @(zeE rfl rfl @(k_ac @(k_fz @(k_wN @(k_ac @(k_fz @(zam rfl @(k_ac @(k_fz @(k_w2 @(zag @(zeE rfl rfl @(k_ac @(k_fz @(k_w2 @(k_pk rfl @(zag @(zas (fn:=zal) @(k_ac @(k_pk rfl @(k_ac @(k_fz @(k_wN @(k_ac @(k_pk rfl @(k_an @(zbn rfl @(zak @(zcz h λt_13 h=>k_an @(zbj rfl @(zau @(zaJ ⟨rfl,_,_,rfl,zaq h (λt_14 h=>k_wp rfl @(k_wv @(k_ix h λt_15 h=>k_an @(zeF rfl rfl @(zao @(zak @(znG h λt_16 h=>zag @(k_c @(k_wv @(k_wv @(k_ix h λt_17 h=>k_an @(zao @(zao @(zak @(zce rfl rfl @(k_an @(zeF rfl rfl @(zao @(zak @(zfZ h λpairs_1 h => ?_)))))))))))))))))))) (λx z=>hx x _ z)⟩))))))))))))))))))))))))))))))))
    exact hn (t_14.2,s_1.2.1,pairs_1,t_16.2) ((some (.fz p_2.1)),(some (.fz p_2.2)),(some (.lst t_9.1))) h
   ·show zfR _ [some (.lst c_1.2),some (.fz stock_1),some (.fz outers_1),some (.lst s_1.2.1),some (.lst s_1.2.2.1),some (.lst t_9.2),some (.fz p_2.1),some (.fz p_2.2),some (.lst t_9.1),none,none,none]
    refine zar @(zcB @(zeE rfl rfl @(k_ac @(k_fz @(k_wN @(k_ac @(k_fz @(zam rfl @(k_ac @(k_fz @(k_wN @(k_ac @(k_fz @(k_wN @(k_ac @(k_pk rfl @(k_an @(zbn rfl @(zak @(zcz h λt_18 h=>k_ac @(zag @(k_c @(k_an @(zao @(zao @(zak @(zce rfl rfl @(k_an @(zao @(zao @(zak @(zce rfl rfl @(k_an @(zeF rfl rfl @(zao @(zak @(zfZ h λpairs_2 h => ?_)))))))))))))))))))))))))))))))))))))
    try with_reducible show zb0 _ _
    show zb0 _ [some (.lst c_1.2),some (.fz stock_1),some (.fz outers_1),some (.lst s_1.2.1),some (.lst pairs_2),some (.lst t_9.2),some (.fz p_2.1),some (.fz p_2.2),some (.lst t_9.1),none,none,none]
    refine zcB @(zeE rfl rfl @(k_ac @(k_fz @(k_w2 @(zag @(k_lc @(zdy @(zam rfl @(zcV h λds_2 h=>zo9 h (λd_2 S KK K0 hk h0 h=>zbF h λp_3 h=>zaB @(g_nm @(zaB @(g_nm @(zdB @(zpa @(zaN @(k_w2 @(k_pk rfl @(zag @(k_wN @(k_ac @(k_fz @(zas (fn:=zcK) @(k_ac @(k_fz @(zam rfl @(k_an @(zau @(zaJ ⟨rfl,_,rfl,zaq h (λt_19 h=>k_an @(zao @(zak @(zce rfl rfl @(k_wp rfl @(k_wv @(k_eq h λt_20 h=>j_tv @(zpb h (λh=>zam rfl (hk _ _ rfl h)) (λh=>h0 _ rfl h))))))))) (λ_ z=>z.elim)⟩)))))))))))))))))))) λxs_2 h=>zag @(k_c @(k_wv @(k_wv @(k_ix h λt_21 h=>k_an @(zeF rfl rfl @(zao @(zak @(zfZ h λboxes_2 h => ?_)))))))))))))))))
    exact hn (c_1.2,boxes_2,pairs_2,t_9.2) ((some (.fz p_2.1)),(some (.fz p_2.2)),(some (.lst t_9.1))) h
  ·exact ha s_1 j_1 h
def zkJ:WS:=sSet 4 (wN zbR (aNil))
def zlb:WS:=sSet 6 (wN zbR (aNil))
def zeZ:WS:=zee (wMut "list" zgw 6 (zae (oVal (wLc (iEn (wVar 10)) (.tp [.nm 11,.nm 15]) (tVal (w2 (opEq false) (oPk 15) (oVal (zaI zcK (zae (oFz (wVar 8)) (aNil)))))) (wN zbr (zae (oFz (wVar 7)) (zae (oFz (wVar 9)) (zae (oFz (wVar 11)) (aNil))))) [11,15])) (aNil)))
def zge:WS:=sFor (iSeq (wVar 1)) (.tp [.nm 9,.nm 10])
 (zeZ)
def zgW:WS:=sFor (iSeq (zaI zeg (zae (oFz (wVar 1)) (zae (oPk 2) (zae (oPk 4) (aNil)))))) (.tp [.nm 7,.nm 8])
 (zge)
def ziA:WS:=sAsg (.tp [.nm 7,.nm 9,.nm 11]) (w2 opIx (oPk 6) (oVal (zaI zal (zae (oPk 0) (zae (oFz (wN zcc (zae (oPk 6) (aNil)))) (aNil))))))
def zfr:WS:=zee (wMut "list" za8 4 (zae (oFz (wN zbr (zae (oFz (wVar 7)) (zae (oFz (wN zbr (zae (oFz (wN zcc (zae (oPk 2) (aNil)))) (zae (oFz (wVar 11)) (aNil))))) (aNil))))) (aNil)))
def zbC:WS:=sSet 2 (w2 zcb (oPk 2) (oVal (wN zbR (zae (oFz (wVar 9)) (aNil)))))
def zkK:WS:=sSeq (ziA) (sSeq (zfr) (zbC))
def zcE:WS:=sIf (tVal (w2 (opEq true) (oPk 6) (oVal (wN zbR (aNil)))))
 (zkK)
 (sNx)
def zi0:WS:=sSeq (zlb) (sSeq (zgW) (zcE))
def zhi:WS:=sFor (iR1 (oVal (zaI zal (zae (oPk 0) (zae (oVal (wC (.int 3))) (aNil)))))) (.nm 5)
 (zi0)
def zfD:WS:=sSet 12 (zaI zeg (zae (oFz (wVar 1)) (zae (oPk 2) (zae (oPk 4) (aNil)))))
def zeM:WS:=sSet 13 (wN zbR (aNil))
def zlc:WS:=sAsg (.tp [.nm 7,.nm 8]) (wMut "list" zhB 12 (zae (oFz (zaI zal (zae (oPk 0) (zae (oFz (wN zcc (zae (oPk 12) (aNil)))) (aNil))))) (aNil)))
def zgX:WS:=sSet 14 (zaI zeL (zae (oPk 12) (zae (oFz (wVar 8)) (aNil))))
def ziB:WS:=zee (wMut "list" za8 4 (zae (oFz (wN zbr (zae (oFz (wN zbr (zae (oFz (w1 zoZ (oVal (wC (.int 1))))) (zae (oFz (wN zcc (zae (oPk 13) (aNil)))) (aNil))))) (zae (oFz (wVar 7)) (aNil))))) (aNil)))
def zcv:WS:=zee (wMut "list" za8 13 (zae (oFz (zaI zcK (zae (oFz (wVar 8)) (aNil)))) (aNil)))
def zgf:WS:=sSeq (ziB) (zcv)
def zcF:WS:=sIf (zk4 (tVal (w2 (opEq true) (oPk 14) (oVal (wN zbR (aNil))))) (tVal (w2 (zfW .lt) (oVal (zaI zal (zae (oPk 0) (zae (oVal (wC (.int 6))) (aNil))))) (oPk 3))))
 (zee (wMut "list" za8 4 (zae (oFz (wN zbr (zae (oFz (wVar 7)) (zae (oFz (w2 opIx (oVal (wMut "list" zhB 12 (zae (oFz (w2 opIx (oPk 14) (oVal (zaI zal (zae (oPk 0) (zae (oFz (wN zcc (zae (oPk 14) (aNil)))) (aNil))))))) (aNil)))) (oVal (wC (.int 0))))) (aNil))))) (aNil))))
 (zgf)
def zi3:WS:=sSeq (zlc) (sSeq (zgX) (zcF))
def zdH:WS:=zhv (tVal (w2 (opEq true) (oPk 12) (oVal (wN zbR (aNil)))))
 (zi3)
def zbO:WS:=sRet (oVal (wN zbr (zae (oFz (wN zde (zae (oPk 13) (aNil)))) (zae (oFz (wN zde (zae (oPk 2) (aNil)))) (zae (oFz (zaI zeK (zae (oFz (wVar 4)) (aNil)))) (zae (oFz (wN zbr (aNil))) (aNil)))))))
def zor:WS:=sSeq (zkJ) (sSeq (zhi) (sSeq (zfD) (sSeq (zeM) (sSeq (zdH) (zbO)))))
abbrev ziC:Type:=D×List D
def zfE (p_1:D×D) (d_3:D) (s_3:List D):R (List D) :=
 R.bind (nUn2 d_3) λp_2 =>
 R.bind (zmz p_2.2) λds_3 =>
 R.bind (lcF (λd_4:D=>R.bind (nUn2 d_4) λp_4 =>
 R.bind (zcJ p_1.2) λt_3 =>
 R.bind (nEq false p_4.2 t_3) λt_4 =>
 if t_4=true then (.ok ((some (.tup [p_1.1,p_2.1,p_4.1]))):R (Option D)) else .ok none) ds_3) λxs_1 =>
 R.bind (nExt s_3 (.lst xs_1)) λsome_1 =>
 .ok some_1
def zdn (stock_1:D) (d_2:D) (s_2:List D):R (List D) :=
 R.bind (nUn2 d_2) λp_1 =>
 R.bind (zcX stock_1) λds_2 =>
 R.bind (R.forS (zfE p_1) ds_2 s_2) λs_4 =>
 .ok s_4
def zd0 (stock_1:D) (d_1:D) (s_1:List D×M×List D):R (List D×M×List D) :=
 R.bind (zdO stock_1 s_1.2.1 (.lst s_1.2.2)) λt_2 =>
 R.bind (R.forS (zdn stock_1) t_2 ([]:List D)) λs_5 =>
 R.bind (nEq true (.lst s_5) (.lst ([]:List D))) λt_5 =>
 if t_5=true then
 R.bind (nLen (.lst s_5)) λt_6 =>
 R.bind (zaw s_1.1 t_6) λt_7 =>
 R.bind (nIx (.lst s_5) t_7.1) λt_8 =>
 R.bind (nUn3 t_8) λp_6 =>
 R.bind (nLen s_1.2.1.d) λt_9 =>
 R.bind (nApp s_1.2.2 (.tup [p_6.1,(.tup [t_9,p_6.2.2])])) λpairs_1 =>
 R.bind (zii s_1.2.1.d (.lst [p_6.2.1])) λt_10 =>
 .ok (t_7.2,(.lst t_10),pairs_1)
 else
 .ok (s_1.1,s_1.2.1,s_1.2.2)
def zdo (loops_1:D) (s_7:List D×List D×List D×List D) (K A:(List D×List D×List D×List D)->R (ziC)):R (ziC) :=
 R.bind (nEq true (.lst s_7.2.2.1) (.lst ([]:List D))) λt_12 =>
 if t_12=true then
 R.bind (nLen (.lst s_7.2.2.1)) λt_13 =>
 R.bind (zaw s_7.1 t_13) λt_14 =>
 R.bind (nPop s_7.2.2.1 t_14.1) λt_15 =>
 R.bind (nUn2 t_15.1) λp_7 =>
 R.bind (zfp t_15.2 p_7.2) λt_16 =>
 R.bind (nEq true (.lst t_16.1) (.lst ([]:List D))) λt_17 =>
 R.bind (if t_17=true then (R.bind (zaw t_14.2 (.int 6)) λt_18=>R.bind (nOrd .lt t_18.1 loops_1) λt_19=>.ok ((t_19,t_18.2)):R (Bool×List D)) else .ok ((false,t_14.2))) λc_1 =>
 if c_1.1=true then
 R.bind (nLen (.lst t_16.1)) λt_20 =>
 R.bind (zaw c_1.2 t_20) λt_21 =>
 R.bind (nIx (.lst t_16.1) t_21.1) λt_22 =>
 R.bind (nPop t_16.2 t_22) λt_23 =>
 R.bind (nIx t_23.1 (.int 0)) λt_24 =>
 R.bind (nApp s_7.2.1 (.tup [p_7.1,t_24])) λpairs_2 =>
 K (t_21.2,pairs_2,t_23.2,s_7.2.2.2)
 else
 R.bind (nNeg (.int 1)) λt_25 =>
 R.bind (nLen (.lst s_7.2.2.2)) λt_26 =>
 R.bind (nApp s_7.2.1 (.tup [(.tup [t_25,t_26]),p_7.1])) λpairs_3 =>
 R.bind (zcJ p_7.2) λt_27 =>
 R.bind (nApp s_7.2.2.2 t_27) λouters_1 =>
 K (c_1.2,pairs_3,t_16.2,outers_1)
 else A s_7
@[irreducible] def zgg (held_1:List D) (stock_1:D) (boxes_1:D) (loops_1:D):R (ziC) :=
  R.bind (zaw held_1 (.int 3)) λt_1 =>
  R.bind (nR1 t_1.1) λds_1 =>
  R.bind (R.forS (zd0 stock_1) ds_1 (t_1.2,(.fz boxes_1),([]:List D))) λs_6 =>
  R.bind (zdO stock_1 s_6.2.1 (.lst s_6.2.2)) λt_11 =>
  R.whileN (zdo loops_1) (λ(s_8:List D×List D×List D×List D) =>
  R.bind (zcy (.lst s_8.2.2.2)) λt_28 =>
  R.bind (zcy s_6.2.1.d) λt_29 =>
  R.bind (zdW (.lst s_8.2.1)) λt_30 =>
  .ok ((.tup [t_28,t_29,t_30,(.tup [])]),s_8.1)) most (s_6.1,s_6.2.2,t_11,([]:List D))
abbrev ziD (ms:List M) (Q:M->En->Prop) (X:Xn->Prop):Prop:=∃ (held_1:List D) (stock_1:D) (boxes_1:D) (loops_1:D),ms=[(.lst held_1),(.fz stock_1),(.fz boxes_1),(.fz loops_1)]/\(zgg held_1 stock_1 boxes_1 loops_1).post (λr=>Q (M.fz r.1) [some (.lst r.2),none,none,none]) X
abbrev zhX:Fn:=⟨4,[0],ziD⟩
theorem zos:zbm ziD:=λms Q Q' X X' hq hx ⟨held_1,stock_1,boxes_1,loops_1,e,h⟩=>⟨held_1,stock_1,boxes_1,loops_1,e,zay h (λ_ h=>hq _ _ h) hx⟩
theorem zuv (ms:List M) (Q:M->En->Prop) (X:Xn->Prop) (h:ziD ms Q X):wFn 16 4 [0] zor ms Q X:=by
 obtain ⟨held_1,stock_1,boxes_1,loops_1,rfl,h⟩:=h
 unfold zgg at h
 refine zbk (e0:=[some (.lst held_1),some (.fz stock_1),some (.fz boxes_1),some (.fz loops_1),none,none,none,none,none,none,none,none,none,none,none,none]) rfl λE hrt hnx hx => ?_
 show (sSeq zkJ (sSeq zhi (sSeq zfD (sSeq zeM (sSeq zdH (zbO)))))) _ _
 refine zar @(zaP @(k_wN @(k_an @(zak @(zcA rfl rfl (?_))))))
 show (sSeq zhi (sSeq zfD (sSeq zeM (sSeq zdH (zbO))))) _ [some (.lst held_1),some (.fz stock_1),some (.fz boxes_1),some (.fz loops_1),some (.lst ([]:List D)),none,none,none,none,none,none,none,none,none,none,none]
 refine zar @(zfc @(zig @(zag @(zas (fn:=zal) @(k_ac @(k_pk rfl @(k_ac @(zag @(k_c @(k_an @(zbj rfl @(zau @(zaJ ⟨rfl,_,_,rfl,zaq h (λt_1 h=>k_wv @(k_r1 h λds_1 h=>zcf (λ(s_1:List D×M×List D) (j_1:Option M×Option M×Option M×Option M×Option M×Option M×Option M)=>[some (.lst s_1.1),some (.fz stock_1),some s_1.2.1,some (.fz loops_1),some (.lst s_1.2.2),j_1.1,j_1.2.1,j_1.2.2.1,j_1.2.2.2.1,j_1.2.2.2.2.1,j_1.2.2.2.2.2.1,j_1.2.2.2.2.2.2,none,none,none,none]) ?_ ?_ _ (t_1.2,(.fz boxes_1),([]:List D)) (none,none,none,none,none,none,none) h)) (λx z=>hx x _ z)⟩)))))))))))))
 ·intro d_1 s_1 j_1 N S hn h
  refine g_nm (?_)
  show zi0 _ [some (.lst s_1.1),some (.fz stock_1),some s_1.2.1,some (.fz loops_1),some (.lst s_1.2.2),some (.fz d_1),j_1.2.1,j_1.2.2.1,j_1.2.2.2.1,j_1.2.2.2.2.1,j_1.2.2.2.2.2.1,j_1.2.2.2.2.2.2,none,none,none,none]
  refine zar @(zaP @(k_wN @(k_an @(zak @(zcA rfl rfl (?_))))))
  show (sSeq zgW (zcE)) _ [some (.lst s_1.1),some (.fz stock_1),some s_1.2.1,some (.fz loops_1),some (.lst s_1.2.2),some (.fz d_1),some (.lst ([]:List D)),j_1.2.2.1,j_1.2.2.2.1,j_1.2.2.2.2.1,j_1.2.2.2.2.2.1,j_1.2.2.2.2.2.2,none,none,none,none]
  refine zar @(zfc @(zdy @(zas (fn:=zeg) @(k_ac @(k_fz @(zam rfl @(k_ac @(k_pk rfl @(k_ac @(k_pk rfl @(k_an @(zau @(zbj rfl @(zbj rfl @(zaJ ⟨rfl,_,_,_,rfl,zaq h (λt_2 h=>zyK rfl @(zcf (λ(s_2:List D) (j_2:Option M×Option M×Option M×Option M)=>[some (.lst s_1.1),some (.fz stock_1),some s_1.2.1,some (.fz loops_1),some (.lst s_1.2.2),some (.fz d_1),some (.lst s_2),j_2.1,j_2.2.1,j_2.2.2.1,j_2.2.2.2,j_1.2.2.2.2.2.2,none,none,none,none]) ?_ ?_ _ ([]:List D) (j_1.2.2.1,j_1.2.2.2.1,j_1.2.2.2.2.1,j_1.2.2.2.2.2.1) h)) (λx z=>hx x _ z)⟩)))))))))))))))
  ·intro d_2 s_2 j_2 N S hn h
   refine zbF h λp_1 h=>zaB @(g_nm @(zaB @(g_nm @(zdB (?_)))))
   show zge _ [some (.lst s_1.1),some (.fz stock_1),some s_1.2.1,some (.fz loops_1),some (.lst s_1.2.2),some (.fz d_1),some (.lst s_2),some (.fz p_1.1),some (.fz p_1.2),j_2.2.2.1,j_2.2.2.2,j_1.2.2.2.2.2.2,none,none,none,none]
   refine zfc @(zdy @(zam rfl @(zcV h λds_2 h=>zcf (λ(s_3:List D) (j_3:Option M×Option M)=>[some (.lst s_1.1),some (.fz stock_1),some s_1.2.1,some (.fz loops_1),some (.lst s_1.2.2),some (.fz d_1),some (.lst s_3),some (.fz p_1.1),some (.fz p_1.2),j_3.1,j_3.2,j_1.2.2.2.2.2.2,none,none,none,none]) ?_ ?_ _ s_2 (j_2.2.2.1,j_2.2.2.2) h)))
   ·intro d_3 s_3 j_3 N S hn h
    refine zbF h λp_2 h=>zaB @(g_nm @(zaB @(g_nm @(zdB (?_)))))
    show zeZ _ [some (.lst s_1.1),some (.fz stock_1),some s_1.2.1,some (.fz loops_1),some (.lst s_1.2.2),some (.fz d_1),some (.lst s_3),some (.fz p_1.1),some (.fz p_1.2),some (.fz p_2.1),some (.fz p_2.2),j_1.2.2.2.2.2.2,none,none,none,none]
    refine zcB @(zeE rfl rfl @(k_ac @(zag @(k_lc @(zmA @(zam rfl @(zls h λds_3 h=>zo9 h (λd_4 S KK K0 hk h0 h=>zbF h λp_4 h=>zaB @(g_nm @(zaB @(g_nm @(zdB @(zpa @(zaN @(k_w2 @(k_pk rfl @(zag @(zas (fn:=zcK) @(k_ac @(k_fz @(zam rfl @(k_an @(zau @(zaJ ⟨rfl,_,rfl,zaq h (λt_3 h=>k_wp rfl @(k_wv @(k_eq h λt_4 h=>j_tv @(zpb h (λh=>zka (λQ hq=>k_wN @(k_ac @(k_fz @(zam rfl @(k_ac @(k_fz @(zam rfl @(k_ac @(k_fz @(zam rfl @(k_an @(zao @(zao @(zao @(zak @(zce rfl rfl hq)))))))))))))))) (hk _ _ rfl h)) (λh=>h0 _ rfl h))))) (λ_ z=>z.elim)⟩))))))))))))))))) λxs_1 h=>k_an @(zeF rfl rfl @(zao @(zak @(zyz h λsome_1 h => ?_)))))))))))
    exact hn some_1 ((some (.fz p_2.1)),(some (.fz p_2.2))) h
   ·intro s_4 j_4 h
    exact hn s_4 ((some (.fz p_1.1)),(some (.fz p_1.2)),j_4.1,j_4.2) h
  ·intro s_5 j_5 h
   try with_reducible show zcE _ _
   show zcE _ [some (.lst s_1.1),some (.fz stock_1),some s_1.2.1,some (.fz loops_1),some (.lst s_1.2.2),some (.fz d_1),some (.lst s_5),j_5.1,j_5.2.1,j_5.2.2.1,j_5.2.2.2,j_1.2.2.2.2.2.2,none,none,none,none]
   refine zeT @(zaN @(k_w2 @(k_pk rfl @(zag @(k_wN @(k_an @(zak @(zcA rfl rfl @(k_wp rfl @(k_wv @(k_eq h λt_5 h=>j_tv @(zfb h (λh => ?_) (λh => ?_)))))))))))))
   ·refine zar @(zs4 @(k_w2 @(k_pk rfl @(zag @(zas (fn:=zal) @(k_ac @(k_pk rfl @(k_ac @(k_fz @(k_wN @(k_ac @(k_pk rfl @(k_an @(zbn rfl @(zak @(zcz h λt_6 h=>k_an @(zbj rfl @(zau @(zaJ ⟨rfl,_,_,rfl,zaq h (λt_7 h=>k_wp rfl @(k_wv @(k_ix h λt_8 h=>g_un3P h λp_6 h=>zaB @(g_nm @(zaB @(g_nm @(zaB @(g_nm @(zdB (?_)))))))))) (λx z=>hx x _ z)⟩)))))))))))))))))))
    show (sSeq zfr (zbC)) _ [some (.lst t_7.2),some (.fz stock_1),some s_1.2.1,some (.fz loops_1),some (.lst s_1.2.2),some (.fz d_1),some (.lst s_5),some (.fz p_6.1),j_5.2.1,some (.fz p_6.2.1),j_5.2.2.2,some (.fz p_6.2.2),none,none,none,none]
    refine zar @(zcB @(zeE rfl rfl @(k_ac @(k_fz @(k_wN @(k_ac @(k_fz @(zam rfl @(k_ac @(k_fz @(k_wN @(k_ac @(k_fz @(k_wN @(k_ac @(k_pk rfl @(k_an @(zbn rfl @(zak @(zcz h λt_9 h=>k_ac @(k_fz @(zam rfl @(k_an @(zao @(zao @(zak @(zce rfl rfl @(k_an @(zao @(zao @(zak @(zce rfl rfl @(k_an @(zeF rfl rfl @(zao @(zak @(zfZ h λpairs_1 h => ?_)))))))))))))))))))))))))))))))))))))
    try with_reducible show zbC _ _
    show zbC _ [some (.lst t_7.2),some (.fz stock_1),some s_1.2.1,some (.fz loops_1),some (.lst pairs_1),some (.fz d_1),some (.lst s_5),some (.fz p_6.1),j_5.2.1,some (.fz p_6.2.1),j_5.2.2.2,some (.fz p_6.2.2),none,none,none,none]
    refine zaP @(k_w2 @(k_pk rfl @(zag @(k_wN @(k_ac @(k_fz @(zam rfl @(k_an @(zao @(zak @(zcA rfl rfl @(k_wp rfl @(k_wv @(znH h λt_10 h => ?_))))))))))))))
    exact hn (t_7.2,(.lst t_10),pairs_1) ((some (.fz d_1)),(some (.lst s_5)),(some (.fz p_6.1)),j_5.2.1,(some (.fz p_6.2.1)),j_5.2.2.2,(some (.fz p_6.2.2))) h
   ·refine k_nx ?_
    exact hn (s_1.1,s_1.2.1,s_1.2.2) ((some (.fz d_1)),(some (.lst s_5)),j_5.1,j_5.2.1,j_5.2.2.1,j_5.2.2.2,j_1.2.2.2.2.2.2) h
 ·intro s_6 j_6 h
  show (sSeq zfD (sSeq zeM (sSeq zdH (zbO)))) _ [some (.lst s_6.1),some (.fz stock_1),some s_6.2.1,some (.fz loops_1),some (.lst s_6.2.2),j_6.1,j_6.2.1,j_6.2.2.1,j_6.2.2.2.1,j_6.2.2.2.2.1,j_6.2.2.2.2.2.1,j_6.2.2.2.2.2.2,none,none,none,none]
  refine zar @(zaP @(zas (fn:=zeg) @(k_ac @(k_fz @(zam rfl @(k_ac @(k_pk rfl @(k_ac @(k_pk rfl @(k_an @(zau @(zbj rfl @(zbj rfl @(zaJ ⟨rfl,_,_,_,rfl,zaq h (λt_11 h => ?_) (λx z=>hx x _ z)⟩))))))))))))))
  show (sSeq zeM (sSeq zdH (zbO))) _ [some (.lst s_6.1),some (.fz stock_1),some s_6.2.1,some (.fz loops_1),some (.lst s_6.2.2),j_6.1,j_6.2.1,j_6.2.2.1,j_6.2.2.2.1,j_6.2.2.2.2.1,j_6.2.2.2.2.2.1,j_6.2.2.2.2.2.2,some (.lst t_11),none,none,none]
  refine zar @(zaP @(k_wN @(k_an @(zak @(zcA rfl rfl (?_))))))
  show (sSeq zdH (zbO)) _ [some (.lst s_6.1),some (.fz stock_1),some s_6.2.1,some (.fz loops_1),some (.lst s_6.2.2),j_6.1,j_6.2.1,j_6.2.2.1,j_6.2.2.2.1,j_6.2.2.2.2.1,j_6.2.2.2.2.2.1,j_6.2.2.2.2.2.2,some (.lst t_11),some (.lst ([]:List D)),none,none]
  refine zar @(zhH (λ(s_7:List D×List D×List D×List D) (j_7:Option M×Option M×Option M)=>[some (.lst s_7.1),some (.fz stock_1),some s_6.2.1,some (.fz loops_1),some (.lst s_7.2.1),j_6.1,j_6.2.1,j_7.1,j_7.2.1,j_6.2.2.2.2.1,j_6.2.2.2.2.2.1,j_6.2.2.2.2.2.2,some (.lst s_7.2.2.1),some (.lst s_7.2.2.2),j_7.2.2,none]) (λs_8 j_8 h => ?_) (λha => ?_) most (s_6.1,s_6.2.2,t_11,([]:List D)) (j_6.2.2.1,j_6.2.2.2.1,none) h)
  ·try with_reducible show zbO _ _
   show zbO _ [some (.lst s_8.1),some (.fz stock_1),some s_6.2.1,some (.fz loops_1),some (.lst s_8.2.1),j_6.1,j_6.2.1,j_8.1,j_8.2.1,j_6.2.2.2.2.1,j_6.2.2.2.2.2.1,j_6.2.2.2.2.2.2,some (.lst s_8.2.2.1),some (.lst s_8.2.2.2),j_8.2.2,none]
   refine za1 @(k_wN @(k_ac @(k_fz @(k_wN @(k_ac @(k_pk rfl @(k_an @(zbn rfl @(zak @(zeD h λt_28 h=>k_ac @(k_fz @(k_wN @(k_ac @(k_pk rfl @(k_an @(zbn rfl @(zak @(zeD h λt_29 h=>k_ac @(k_fz @(zas (fn:=zeK) @(k_ac @(k_fz @(zms rfl @(k_an @(zau @(zaJ ⟨rfl,_,rfl,zaq h (λt_30 h=>k_ac @(k_fz @(k_wN @(k_an @(zak @(zce rfl rfl @(k_an @(zao @(zao @(zao @(zao @(zak @(zce rfl rfl (hrt _ _ h)))))))))))))) (λx z=>hx x _ z)⟩))))))))))))))))))))))))))
  ·intro s_7 j_7 N K hn h
   refine zaN @(k_w2 @(k_pk rfl @(zag @(k_wN @(k_an @(zak @(zcA rfl rfl @(k_wp rfl @(k_wv @(k_eq h λt_12 h=>j_tv @(zs6 h (λh => ?_) (λh => ?_))))))))))))
   ·show zi3 _ [some (.lst s_7.1),some (.fz stock_1),some s_6.2.1,some (.fz loops_1),some (.lst s_7.2.1),j_6.1,j_6.2.1,j_7.1,j_7.2.1,j_6.2.2.2.2.1,j_6.2.2.2.2.2.1,j_6.2.2.2.2.2.2,some (.lst s_7.2.2.1),some (.lst s_7.2.2.2),j_7.2.2,none]
    refine zar @(zs4 @(zeE rfl rfl @(k_ac @(k_fz @(zas (fn:=zal) @(k_ac @(k_pk rfl @(k_ac @(k_fz @(k_wN @(k_ac @(k_pk rfl @(k_an @(zbn rfl @(zak @(zcz h λt_13 h=>k_an @(zbj rfl @(zau @(zaJ ⟨rfl,_,_,rfl,zaq h (λt_14 h=>k_an @(zeF rfl rfl @(zao @(zak @(znG h λt_15 h=>zbF h λp_7 h=>zaB @(g_nm @(zaB @(g_nm @(zdB (?_)))))))))) (λx z=>hx x _ z)⟩)))))))))))))))))))
    show (sSeq zgX (zcF)) _ [some (.lst t_14.2),some (.fz stock_1),some s_6.2.1,some (.fz loops_1),some (.lst s_7.2.1),j_6.1,j_6.2.1,some (.fz p_7.1),some (.fz p_7.2),j_6.2.2.2.2.1,j_6.2.2.2.2.2.1,j_6.2.2.2.2.2.2,some (.lst t_15.2),some (.lst s_7.2.2.2),j_7.2.2,none]
    refine zar @(zaP @(zas (fn:=zeL) @(k_ac @(k_pk rfl @(k_ac @(k_fz @(zam rfl @(k_an @(zbj rfl @(zau @(zaJ ⟨rfl,_,_,rfl,zaq h (λt_16 h => ?_) (λx z=>hx x _ z)⟩)))))))))))
    try with_reducible show zcF _ _
    show zcF _ [some (.lst t_14.2),some (.fz stock_1),some s_6.2.1,some (.fz loops_1),some (.lst s_7.2.1),j_6.1,j_6.2.1,some (.fz p_7.1),some (.fz p_7.2),j_6.2.2.2.2.1,j_6.2.2.2.2.2.1,j_6.2.2.2.2.2.2,some (.lst t_16.2),some (.lst s_7.2.2.2),some (.lst t_16.1),none]
    refine zeT @(zj1 @(zaN @(k_w2 @(k_pk rfl @(zag @(k_wN @(k_an @(zak @(zcA rfl rfl @(k_wp rfl @(k_wv @(k_eq h λt_17 h=>j_tv @(zj2 (λ(v:Bool×List D)=>v.1) (λ(v:Bool×List D)=>[some (.lst v.2),some (.fz stock_1),some s_6.2.1,some (.fz loops_1),some (.lst s_7.2.1),j_6.1,j_6.2.1,some (.fz p_7.1),some (.fz p_7.2),j_6.2.2.2.2.1,j_6.2.2.2.2.2.1,j_6.2.2.2.2.2.2,some (.lst t_16.2),some (.lst s_7.2.2.2),some (.lst t_16.1),none]) h (λJ2 h=>zaN @(k_w2 @(zag @(zas (fn:=zal) @(k_ac @(k_pk rfl @(k_ac @(zag @(k_c @(k_an @(zbj rfl @(zau @(zaJ ⟨rfl,_,_,rfl,zaq (asc h) (λt_18 h=>k_pk rfl @(k_wv @(k_wp rfl @(zji (asc h) λt_19 h=>j_tv (J2 (t_19,t_18.2) h))))) (λx z=>hx x _ z)⟩))))))))))))) (λJ2 h=>J2 (false,t_14.2) h) (λc_1 h=>zfb h (λh => ?_) (λh => ?_)))))))))))))))
    ·refine zcB @(zeE rfl rfl @(k_ac @(k_fz @(k_wN @(k_ac @(k_fz @(zam rfl @(k_ac @(k_fz @(k_w2 @(zag @(zeE rfl rfl @(k_ac @(k_fz @(k_w2 @(k_pk rfl @(zag @(zas (fn:=zal) @(k_ac @(k_pk rfl @(k_ac @(k_fz @(k_wN @(k_ac @(k_pk rfl @(k_an @(zbn rfl @(zak @(zcz h λt_20 h=>k_an @(zbj rfl @(zau @(zaJ ⟨rfl,_,_,rfl,zaq h (λt_21 h=>k_wp rfl @(k_wv @(k_ix h λt_22 h=>k_an @(zeF rfl rfl @(zao @(zak @(znG h λt_23 h=>zag @(k_c @(k_wv @(k_wv @(k_ix h λt_24 h=>k_an @(zao @(zao @(zak @(zce rfl rfl @(k_an @(zeF rfl rfl @(zao @(zak @(zfZ h λpairs_2 h => ?_)))))))))))))))))))) (λx z=>hx x _ z)⟩))))))))))))))))))))))))))))))))
     exact hn (t_21.2,pairs_2,t_23.2,s_7.2.2.2) ((some (.fz p_7.1)),(some (.fz p_7.2)),(some (.lst t_16.1))) h
    ·show zgf _ [some (.lst c_1.2),some (.fz stock_1),some s_6.2.1,some (.fz loops_1),some (.lst s_7.2.1),j_6.1,j_6.2.1,some (.fz p_7.1),some (.fz p_7.2),j_6.2.2.2.2.1,j_6.2.2.2.2.2.1,j_6.2.2.2.2.2.2,some (.lst t_16.2),some (.lst s_7.2.2.2),some (.lst t_16.1),none]
     refine zar @(zcB @(zeE rfl rfl @(k_ac @(k_fz @(k_wN @(k_ac @(k_fz @(k_wN @(k_ac @(k_fz @(k_w1 @(zag @(k_c @(k_wv @(zsZ h λt_25 h=>k_ac @(k_fz @(k_wN @(k_ac @(k_pk rfl @(k_an @(zbn rfl @(zak @(zcz h λt_26 h=>k_an @(zao @(zao @(zak @(zce rfl rfl @(k_ac @(k_fz @(zam rfl @(k_an @(zao @(zao @(zak @(zce rfl rfl @(k_an @(zeF rfl rfl @(zao @(zak @(zfZ h λpairs_3 h => ?_))))))))))))))))))))))))))))))))))))))))
     try with_reducible show zcv _ _
     show zcv _ [some (.lst c_1.2),some (.fz stock_1),some s_6.2.1,some (.fz loops_1),some (.lst pairs_3),j_6.1,j_6.2.1,some (.fz p_7.1),some (.fz p_7.2),j_6.2.2.2.2.1,j_6.2.2.2.2.2.1,j_6.2.2.2.2.2.2,some (.lst t_16.2),some (.lst s_7.2.2.2),some (.lst t_16.1),none]
     refine zcB @(zeE rfl rfl @(k_ac @(k_fz @(zas (fn:=zcK) @(k_ac @(k_fz @(zam rfl @(k_an @(zau @(zaJ ⟨rfl,_,rfl,zaq h (λt_27 h=>k_an @(zeF rfl rfl @(zao @(zak @(zfZ h λouters_1 h => ?_))))) (λx z=>hx x _ z)⟩))))))))))
     exact hn (c_1.2,pairs_3,t_16.2,outers_1) ((some (.fz p_7.1)),(some (.fz p_7.2)),(some (.lst t_16.1))) h
   ·exact ha s_7 j_7 h
def zi4:WS:=sSet 2 (w2 opIx (oVal (wN zbR (zae (oVal (wC (.int 0))) (zae (oVal (wC (.int 0))) (zae (oVal (wC (.int 0))) (zae (oFz (w2 zcb (oVal (wC (.int 1))) (oVal (zaI zal (zae (oPk 0) (zae (oVal (wC (.int 9))) (aNil))))))) (aNil))))))) (oVal (zaI zal (zae (oPk 0) (zae (oVal (wC (.int 4))) (aNil))))))
def zd1:WS:=sRet (oVal (w2 zcb (oVal (wSl opSl (oPk 1) (pNo) (pInt (wC (.int 3))))) (oVal (wN zbr (zae (oFz (wN zde (zae (oVal (wSl opSl (oVal (wN zbR (zae (oFz (wN zbr (zae (oVal (wC (.str "n"))) (zae (oFz (wVar 2)) (aNil))))) (aNil)))) (pNo) (pInt (wVar 2)))) (aNil)))) (aNil))))))
def zlO:WS:=sSeq (zi4) (zd1)
abbrev zpr:Type:=M×List D
@[irreducible] def zfs (held_1:List D) (net_1:D):R (zpr) :=
  R.bind (zaw held_1 (.int 9)) λt_1 =>
  R.bind (nAdd (.int 1) t_1.1) λt_2 =>
  R.bind (zaw t_1.2 (.int 4)) λt_3 =>
  R.bind (nIx (.lst [(.int 0),(.int 0),(.int 0),t_2.d]) t_3.1) λt_4 =>
  R.bind (nInt (.int 3)) λi_1 =>
  R.bind (nSl net_1 none (some i_1)) λt_5 =>
  R.bind (nInt t_4) λi_2 =>
  R.bind (nSl (.lst [(.tup [(.str "n"),t_4])]) none (some i_2)) λt_6 =>
  R.bind (zcy t_6.d) λt_7 =>
  R.bind (nAdd t_5.d (.tup [t_7])) λt_8 =>
  .ok (t_8,t_3.2)
abbrev zhj (ms:List M) (Q:M->En->Prop) (X:Xn->Prop):Prop:=∃ (held_1:List D) (net_1:D),ms=[(.lst held_1),(.fz net_1)]/\(zfs held_1 net_1).post (λr=>Q (r.1) [some (.lst r.2),none]) X
abbrev zgE:Fn:=⟨2,[0],zhj⟩
theorem zmZ:zbm zhj:=λms Q Q' X X' hq hx ⟨held_1,net_1,e,h⟩=>⟨held_1,net_1,e,zay h (λ_ h=>hq _ _ h) hx⟩
theorem zr5 (ms:List M) (Q:M->En->Prop) (X:Xn->Prop) (h:zhj ms Q X):wFn 3 2 [0] zlO ms Q X:=by
 obtain ⟨held_1,net_1,rfl,h⟩:=h
 unfold zfs at h
 refine zbk (e0:=[some (.lst held_1),some (.fz net_1),none]) rfl λE hrt hnx hx => ?_
 show (sSeq zi4 (zd1)) _ _
 refine zar @(zaP @(k_w2 @(zag @(k_wN @(k_ac @(zag @(k_c @(k_ac @(zag @(k_c @(k_ac @(zag @(k_c @(k_ac @(k_fz @(k_w2 @(zag @(k_c @(zag @(zas (fn:=zal) @(k_ac @(k_pk rfl @(k_ac @(zag @(k_c @(k_an @(zbj rfl @(zau @(zaJ ⟨rfl,_,_,rfl,zaq h (λt_1 h=>k_wv @(k_wv @(zfa h λt_2 h=>k_an @(zao @(zao @(zao @(zao @(zak @(zcA rfl rfl @(zag @(zas (fn:=zal) @(k_ac @(k_pk rfl @(k_ac @(zag @(k_c @(k_an @(zbj rfl @(zau @(zaJ ⟨rfl,_,_,rfl,zaq h (λt_3 h=>k_wv @(k_wv @(k_ix h λt_4 h => ?_))) (λx z=>hx x _ z)⟩)))))))))))))))))))) (λx z=>hx x _ z)⟩)))))))))))))))))))))))))))))
 try with_reducible show zd1 _ _
 show zd1 _ [some (.lst t_3.2),some (.fz net_1),some (.fz t_4)]
 refine za1 @(k_w2 @(zag @(zmt @(k_pk rfl @(zmu @(zhE @(k_c @(zhF h λi_1 h=>k_wp rfl @(k_sl h λt_5 h=>zag @(k_wN @(k_ac @(k_fz @(k_wN @(k_ac @(zag @(zmt @(zag @(k_wN @(k_ac @(k_fz @(zka (λQ hq=>k_wN @(k_ac @(zag @(k_c @(k_ac @(k_fz @(zam rfl @(k_an @(zao @(zao @(zak @(zce rfl rfl hq)))))))))))) @(k_an @(zao @(zak @(zcA rfl rfl @(zmu @(zhE @(zam rfl @(zhF h λi_2 h=>k_wv @(k_sl h λt_6 h=>k_an @(zao @(zak @(zeD h λt_7 h=>k_an @(zao @(zak @(zce rfl rfl @(k_wv @(k_wv @(zfa h λt_8 h=>hrt _ _ h)))))))))))))))))))))))))))))))))))))))
def zlP:WS:=sSet 2 (zaI zhX (zae (oPk 0) (zae (oFz (wVar 1)) (zae (oFz (wN zbR (zae (oFz (w2 opIx (oVal (w2 opIx (oPk 1) (oVal (zaI zal (zae (oPk 0) (zae (oFz (wN zcc (zae (oPk 1) (aNil)))) (aNil))))))) (oVal (wC (.int 0))))) (aNil)))) (zae (oVal (wC (.int 1))) (aNil))))))
def ziE:WS:=sSet 3 (wLc (iR1 (oVal (zaI zal (zae (oPk 0) (zae (oVal (wC (.int 3))) (aNil)))))) (.nm 4) (zd5) (w2 opIx (oVal (w2 opIx (oPk 1) (oVal (zaI zal (zae (oPk 0) (zae (oFz (wN zcc (zae (oPk 1) (aNil)))) (aNil))))))) (oVal (wC (.int 0)))) [4])
def zet:WS:=sRet (oVal (wN zbr (zae (oFz (wVar 2)) (zae (oFz (zaI zgE (zae (oPk 0) (zae (oFz (zaI zgD (zae (oPk 0) (zae (oFz (wVar 1)) (zae (oFz (w2 opIx (oPk 2) (oVal (wC (.int 0))))) (zae (oFz (wVar 3)) (aNil))))))) (aNil))))) (aNil)))))
def zqN:WS:=sSeq (zlP) (sSeq (ziE) (zet))
abbrev zuw:Type:=D×List D
@[irreducible] def zhY (held_1:List D) (stock_1:D):R (zuw) :=
  R.bind (nLen stock_1) λt_1 =>
  R.bind (zaw held_1 t_1) λt_2 =>
  R.bind (nIx stock_1 t_2.1) λt_3 =>
  R.bind (nIx t_3 (.int 0)) λt_4 =>
  R.bind (zgg t_2.2 stock_1 (.lst [t_4]) (.int 1)) λt_5 =>
  R.bind (zaw t_5.2 (.int 3)) λt_6 =>
  R.bind (nR1 t_6.1) λds_1 =>
  R.bind (lcS (λ(d_2:D) (s:List D)=>R.bind (nLen stock_1) λt_11=>R.bind (zaw s t_11) λt_12=>R.bind (nIx stock_1 t_12.1) λt_13=>R.bind (nIx t_13 (.int 0)) λt_14=>.ok ((t_14,t_12.2))) ds_1 t_6.2) λxs_1 =>
  R.bind (nIx t_5.1 (.int 0)) λt_15 =>
  R.bind (zfq xs_1.2 stock_1 t_15 (.lst xs_1.1)) λt_16 =>
  R.bind (zfs t_16.2 t_16.1) λt_17 =>
  .ok ((.tup [t_5.1,t_17.1.d]),t_17.2)
abbrev zkL (ms:List M) (Q:M->En->Prop) (X:Xn->Prop):Prop:=∃ (held_1:List D) (stock_1:D),ms=[(.lst held_1),(.fz stock_1)]/\(zhY held_1 stock_1).post (λr=>Q (M.fz r.1) [some (.lst r.2),none]) X
abbrev zjz:Fn:=⟨2,[0],zkL⟩
theorem zps:zbm zkL:=λms Q Q' X X' hq hx ⟨held_1,stock_1,e,h⟩=>⟨held_1,stock_1,e,zay h (λ_ h=>hq _ _ h) hx⟩
theorem zwB (ms:List M) (Q:M->En->Prop) (X:Xn->Prop) (h:zkL ms Q X):wFn 5 2 [0] zqN ms Q X:=by
 obtain ⟨held_1,stock_1,rfl,h⟩:=h
 unfold zhY at h
 refine zbk (e0:=[some (.lst held_1),some (.fz stock_1),none,none,none]) rfl λE hrt hnx hx => ?_
 show (sSeq zlP (sSeq ziE (zet))) _ _
 refine zar @(zaP @(zas (fn:=zhX) @(k_ac @(k_pk rfl @(k_ac @(k_fz @(zam rfl @(k_ac @(k_fz @(k_wN @(k_ac @(k_fz @(k_w2 @(zag @(k_w2 @(k_pk rfl @(zag @(zas (fn:=zal) @(k_ac @(k_pk rfl @(k_ac @(k_fz @(k_wN @(k_ac @(k_pk rfl @(k_an @(zbn rfl @(zak @(zcz h λt_1 h=>k_an @(zbj rfl @(zau @(zaJ ⟨rfl,_,_,rfl,zaq h (λt_2 h=>k_wp rfl @(k_wv @(k_ix h λt_3 h=>zag @(k_c @(k_wv @(k_wv @(k_ix h λt_4 h=>k_an @(zao @(zak @(zcA rfl rfl @(k_ac @(zag @(k_c @(k_an @(zbj rfl @(zau @(zau @(zau @(zaJ ⟨rfl,_,_,_,_,rfl,zaq h (λt_5 h => ?_) (λx z=>hx x _ z)⟩))))))))))))))))))) (λx z=>hx x _ z)⟩))))))))))))))))))))))))))))))))
 show (sSeq ziE (zet)) _ [some (.lst t_5.2),some (.fz stock_1),some (.fz t_5.1),none,none]
 refine zar @(zaP @(k_lc @(zig @(zag @(zas (fn:=zal) @(k_ac @(k_pk rfl @(k_ac @(zag @(k_c @(k_an @(zbj rfl @(zau @(zaJ ⟨rfl,_,_,rfl,zaq h (λt_6 h=>k_wv @(k_r1 h λds_1 h=>zxh (λs=>[some (.lst s),some (.fz stock_1),some (.fz t_5.1),none,none]) t_6.2 rfl h (λd_2 s S KK hk h=>g_nm @(k_w2 @(zag @(k_w2 @(k_pk rfl @(zag @(zas (fn:=zal) @(k_ac @(k_pk rfl @(k_ac @(k_fz @(k_wN @(k_ac @(k_pk rfl @(k_an @(zbn rfl @(zak @(zcz h λt_11 h=>k_an @(zbj rfl @(zau @(zaJ ⟨rfl,_,_,rfl,zaq h (λt_12 h=>k_wp rfl @(k_wv @(k_ix h λt_13 h=>zag @(k_c @(k_wv @(k_wv @(k_ix h λt_14 h=>hk _ _ t_12.2 rfl h))))))) (λ_ z=>z.elim)⟩))))))))))))))))))))) λxs_1 h => ?_)) (λx z=>hx x _ z)⟩))))))))))))))
 try with_reducible show zet _ _
 show zet _ [some (.lst xs_1.2),some (.fz stock_1),some (.fz t_5.1),some (.lst xs_1.1),none]
 refine za1 @(k_wN @(k_ac @(k_fz @(zam rfl @(k_ac @(k_fz @(zas (fn:=zgE) @(k_ac @(k_pk rfl @(k_ac @(k_fz @(zas (fn:=zgD) @(k_ac @(k_pk rfl @(k_ac @(k_fz @(zam rfl @(k_ac @(k_fz @(k_w2 @(k_pk rfl @(zag @(k_c @(k_wp rfl @(k_wv @(k_ix h λt_15 h=>k_ac @(k_fz @(zms rfl @(k_an @(zbj rfl @(zau @(zau @(zau @(zaJ ⟨rfl,_,_,_,_,rfl,zaq h (λt_16 h=>k_an @(zbj rfl @(zau @(zaJ ⟨rfl,_,_,rfl,zaq h (λt_17 h=>k_an @(zao @(zao @(zak @(zce rfl rfl (hrt _ _ h)))))) (λx z=>hx x _ z)⟩)))) (λx z=>hx x _ z)⟩))))))))))))))))))))))))))))))))))
def zlQ:WS:=sRet (oVal (wLc (iSeq (wVar 0)) (.tp [.nm 2,.nm 3]) (zd5) (wN zcc (zae (oVal (wLc (iSeq (w2 opIx (oPk 1) (oVal (wC (.int 1))))) (.nm 4) (tVal (w2 (opEq false) (oPk 4) (oPk 2))) (wVar 4) [4])) (aNil))) [2,3]))
abbrev zpt:Type:=List D
@[irreducible] def zeu (stock_1:D) (net_1:D):R (zpt) :=
  R.bind (zcX stock_1) λds_1 =>
  R.bind (lcM (λd_1:D=>R.bind (nUn2 d_1) λp_1=>R.bind (nIx net_1 (.int 1)) λt_1=>R.bind (zcX t_1) λds_2=>R.bind (lcF (λd_2:D=>R.bind (nEq false d_2 p_1.1) λt_2 =>
  if t_2=true then (.ok ((some d_2)):R (Option D)) else .ok none) ds_2) λxs_1=>nLen (.lst xs_1)) ds_1) λxs_2 =>
  .ok xs_2
abbrev zhk (ms:List M) (Q:M->En->Prop) (X:Xn->Prop):Prop:=∃ (stock_1:D) (net_1:D),ms=[(.fz stock_1),(.fz net_1)]/\(zeu stock_1 net_1).post (λr=>Q (M.lst r) [none,none]) X
abbrev zev:Fn:=⟨2,[],zhk⟩
theorem zm0:zbm zhk:=λms Q Q' X X' hq hx ⟨stock_1,net_1,e,h⟩=>⟨stock_1,net_1,e,zay h (λ_ h=>hq _ _ h) hx⟩
theorem zr6 (ms:List M) (Q:M->En->Prop) (X:Xn->Prop) (h:zhk ms Q X):wFn 5 2 [] zlQ ms Q X:=by
 obtain ⟨stock_1,net_1,rfl,h⟩:=h
 unfold zeu at h
 refine zbk (e0:=[some (.fz stock_1),some (.fz net_1),none,none,none]) rfl λE hrt hnx hx => ?_
 refine za1 @(k_lc @(zdy @(zam rfl @(zcV h λds_1 h=>zg7 h (λd_1 S KK hk h=>zbF h λp_1 h=>zaB @(g_nm @(zaB @(g_nm @(zdB @(k_wN @(k_ac @(zag @(k_lc @(zdy @(k_w2 @(k_pk rfl @(zag @(k_c @(k_wp rfl @(k_wv @(k_ix h λt_1 h=>zcV h λds_2 h=>zo9 h (λd_2 S KK K0 hk h0 h=>g_nm @(zpa @(zaN @(k_w2 @(k_pk rfl @(k_pk rfl @(k_wp rfl @(k_wp rfl @(k_eq h λt_2 h=>j_tv @(zpb h (λh=>zam rfl (hk _ _ rfl h)) (λh=>h0 _ rfl h))))))))))) λxs_1 h=>k_an @(zao @(zak @(zcz (tl h) λt_3 h=>hk _ _ rfl h)))))))))))))))))))) λxs_2 h=>hrt _ _ h))))
def zlR:WS:=sSet 2 (zaI zev (zae (oFz (wVar 0)) (zae (oFz (w2 opIx (oPk 1) (oVal (wC (.int 1))))) (aNil))))
def zft:WS:=sRet (oVal (wLc (iEn (zaI zev (zae (oFz (wVar 0)) (zae (oFz (w2 opIx (oPk 1) (oVal (wC (.int 0))))) (aNil))))) (.tp [.nm 3,.nm 4]) (zd5) (w2 zk5 (oPk 4) (oVal (w2 opIx (oPk 2) (oPk 3)))) [3,4]))
def zqO:WS:=sSeq (zlR) (zft)
abbrev zux:Type:=List D
@[irreducible] def zgF (stock_1:D) (rule_1:D):R (zux) :=
  R.bind (nIx rule_1 (.int 1)) λt_1 =>
  R.bind (zeu stock_1 t_1) λt_2 =>
  R.bind (nIx rule_1 (.int 0)) λt_3 =>
  R.bind (zeu stock_1 t_3) λt_4 =>
  R.bind (lcM (λd_1:D=>R.bind (nUn2 d_1) λp_1=>R.bind (nIx (.lst t_2) p_1.1) λt_5=>nSub p_1.2 t_5) (enD t_4)) λxs_1 =>
  .ok xs_1
abbrev zkM (ms:List M) (Q:M->En->Prop) (X:Xn->Prop):Prop:=∃ (stock_1:D) (rule_1:D),ms=[(.fz stock_1),(.fz rule_1)]/\(zgF stock_1 rule_1).post (λr=>Q (M.lst r) [none,none]) X
abbrev zjA:Fn:=⟨2,[],zkM⟩
theorem zpu:zbm zkM:=λms Q Q' X X' hq hx ⟨stock_1,rule_1,e,h⟩=>⟨stock_1,rule_1,e,zay h (λ_ h=>hq _ _ h) hx⟩
theorem zwC (ms:List M) (Q:M->En->Prop) (X:Xn->Prop) (h:zkM ms Q X):wFn 5 2 [] zqO ms Q X:=by
 obtain ⟨stock_1,rule_1,rfl,h⟩:=h
 unfold zgF at h
 refine zbk (e0:=[some (.fz stock_1),some (.fz rule_1),none,none,none]) rfl λE hrt hnx hx => ?_
 show (sSeq zlR (zft)) _ _
 refine zar @(zaP @(zas (fn:=zev) @(k_ac @(k_fz @(zam rfl @(k_ac @(k_fz @(k_w2 @(k_pk rfl @(zag @(k_c @(k_wp rfl @(k_wv @(k_ix h λt_1 h=>k_an @(zau @(zau @(zaJ ⟨rfl,_,_,rfl,zaq h (λt_2 h => ?_) (λx z=>hx x _ z)⟩)))))))))))))))))
 try with_reducible show zft _ _
 show zft _ [some (.fz stock_1),some (.fz rule_1),some (.lst t_2),none,none]
 refine za1 @(k_lc @(zmA @(zas (fn:=zev) @(k_ac @(k_fz @(zam rfl @(k_ac @(k_fz @(k_w2 @(k_pk rfl @(zag @(k_c @(k_wp rfl @(k_wv @(k_ix h λt_3 h=>k_an @(zau @(zau @(zaJ ⟨rfl,_,_,rfl,zaq h (λt_4 h=>k_enD rfl @(zg7 h (λd_1 S KK hk h=>zbF h λp_1 h=>zaB @(g_nm @(zaB @(g_nm @(zdB @(k_w2 @(k_pk rfl @(zag @(k_w2 @(k_pk rfl @(k_pk rfl @(k_wp rfl @(k_wp rfl @(k_ix h λt_5 h=>k_wp rfl @(k_wv @(znC (tl h) λt_6 h=>hk _ _ rfl h)))))))))))))))) λxs_1 h=>hrt _ _ h)) (λx z=>hx x _ z)⟩))))))))))))))))))
def zgY:WS:=sIf (tOrW (zl5 (tTru (oVal (wN zo2 (zae (oPk 0) (zae (oVal (wC (.ty "tuple"))) (aNil))))))) (tVal (w2 (opEq true) (oVal (wN zcc (zae (oPk 0) (aNil)))) (oPk 1))))
 (sRet (oVal (wC (.bl false))))
 (sNx)
def zcG:WS:=sRet (oVal (w2 (opEq false) (oVal (wLc (iSeq (wVar 0)) (.nm 2) (tOrW (zl5 (tTru (oVal (wN zo2 (zae (oPk 2) (zae (oVal (wC (.ty "int"))) (aNil))))))) (tOrW (tTru (oVal (wN zo2 (zae (oPk 2) (zae (oVal (wC (.ty "bool"))) (aNil)))))) (tVal (w2 (zfW .lt) (oPk 2) (oVal (wC (.int 0))))))) (wVar 2) [2])) (oVal (wN zbR (aNil)))))
def zi5:WS:=sSeq (zgY) (zcG)
abbrev zm1:Type:=Bool
@[irreducible] def zc2 (thing_1:D) (many_1:D):R (zm1) :=
  R.bind (nIsi "tuple" thing_1) λt_1 =>
  R.bind (orB (!t_1) (R.bind (nLen thing_1) λt_2=>nEq true t_2 many_1)) λc_1 =>
  if c_1=true then
  .ok false
  else
  R.bind (zcX thing_1) λds_1 =>
  R.bind (lcF (λd_1:D=>R.bind (nIsi "int" d_1) λt_4 =>
  R.bind (orB (!t_4) (R.bind (nIsi "bool" d_1) λt_5=>orB t_5 (nOrd .lt d_1 (.int 0)))) λc_3 =>
  if c_3=true then (.ok ((some d_1)):R (Option D)) else .ok none) ds_1) λxs_1 =>
  R.bind (nEq false (.lst xs_1) (.lst ([]:List D))) λt_7 =>
  .ok t_7
abbrev zfF (ms:List M) (Q:M->En->Prop) (X:Xn->Prop):Prop:=∃ (thing_1:D) (many_1:D),ms=[(.fz thing_1),(.fz many_1)]/\(zc2 thing_1 many_1).post (λr=>Q (M.fz (.bl r)) [none,none]) X
abbrev zc3:Fn:=⟨2,[],zfF⟩
theorem zkN:zbm zfF:=λms Q Q' X X' hq hx ⟨thing_1,many_1,e,h⟩=>⟨thing_1,many_1,e,zay h (λ_ h=>hq _ _ h) hx⟩
theorem zot (ms:List M) (Q:M->En->Prop) (X:Xn->Prop) (h:zfF ms Q X):wFn 3 2 [] zi5 ms Q X:=by
 obtain ⟨thing_1,many_1,rfl,h⟩:=h
 unfold zc2 at h
 refine zbk (e0:=[some (.fz thing_1),some (.fz many_1),none]) rfl λE hrt hnx hx => ?_
 show (sSeq zgY (zcG)) _ _
 refine zar @(zeT @(zmv @(zj0 @(zgS @(zag @(k_wN @(k_ac @(k_pk rfl @(k_ac @(zag @(k_c @(k_an @(zbn rfl @(zao @(zak @(zvP h λt_1 h=>k_wv @(zhG @(zmw (λ(v:Bool)=>v) (λ(v:Bool)=>[some (.fz thing_1),some (.fz many_1),none]) h (λJ2 h=>J2 true h) (λJ2 h=>zaN @(k_w2 @(zag @(k_wN @(k_ac @(k_pk rfl @(k_an @(zbn rfl @(zak @(zcz (asc h) λt_2 h=>k_pk rfl @(k_wv @(k_wp rfl @(k_eq h λt_3 h=>j_tv (J2 t_3 h)))))))))))))) (λc_1 h=>zfb h (λh => ?_) (λh => ?_))))))))))))))))))))
 ·refine za1 @(k_c (hrt _ _ h))
 ·refine k_nx ?_
  try with_reducible show zcG _ _
  show zcG _ [some (.fz thing_1),some (.fz many_1),none]
  refine za1 @(k_w2 @(zag @(k_lc @(zdy @(zam rfl @(zcV h λds_1 h=>zo9 h (λd_1 S KK K0 hk h0 h=>g_nm @(zpa @(zmv @(zj0 @(zgS @(zag @(k_wN @(k_ac @(k_pk rfl @(k_ac @(zag @(k_c @(k_an @(zbn rfl @(zao @(zak @(zvP h λt_4 h=>k_wv @(zhG @(zmw (λ(v:Bool)=>v) (λ(v:Bool)=>[some (.fz thing_1),some (.fz many_1),some (.fz d_1)]) h (λJ0 h=>J0 true h) (λJ0 h=>zmv @(zgS @(zag @(k_wN @(k_ac @(k_pk rfl @(k_ac @(zag @(k_c @(k_an @(zbn rfl @(zao @(zak @(zvP (asc h) λt_5 h=>k_wv @(zhG @(zmw (λ(v:Bool)=>v) (λ(v:Bool)=>[some (.fz thing_1),some (.fz many_1),some (.fz d_1)]) h (λJ1 h=>J1 true h) (λJ1 h=>zaN @(k_w2 @(k_pk rfl @(zag @(k_c @(k_wp rfl @(k_wv @(zji h λt_6 h=>j_tv (J1 t_6 h))))))))) (λc_2 h=>J0 c_2 h))))))))))))))))) (λc_3 h=>zpb h (λh=>zam rfl (hk _ _ rfl h)) (λh=>h0 _ rfl h))))))))))))))))))))) λxs_1 h=>zag @(k_wN @(k_an @(zak @(zcA rfl rfl @(k_wv @(k_wv @(k_eq h λt_7 h=>hrt _ _ h)))))))))))))
def zgZ:WS:=sIf (tOrW (zl5 (tTru (oVal (wN zo2 (zae (oPk 2) (zae (oVal (wC (.ty "tuple"))) (aNil))))))) (tVal (w2 (opEq true) (oVal (wN zcc (zae (oPk 2) (aNil)))) (oVal (wC (.int 2))))))
 (sRet (oVal (wC (.bl false))))
 (sNx)
def zfd:WS:=sSet 3 (wLc (iSeq (wVar 1)) (.nm 6) (zd5) (zaI zjA (zae (oFz (wVar 0)) (zae (oFz (wVar 6)) (aNil)))) [6])
def ze0:WS:=sIf (tVal (w2 (zfW .lt) (oVal (wN zvX (zae (oVal (wLc (iZp (w2 opIx (oPk 2) (oVal (wC (.int 1)))) (wVar 4)) (.tp [.nm 8,.nm 7]) (zd5) (w2 ze8 (oPk 8) (oPk 7)) [8,7])) (aNil)))) (oVal (wC (.int 1)))))
 (sRet (oVal (wC (.bl false))))
 (sNx)
def ziF:WS:=sFor (iSeq (wVar 3)) (.nm 4)
 (ze0)
def zcw:WS:=sRet (oVal (wC (.bl true)))
def zkO:WS:=sSeq (ziF) (zcw)
def zdR:WS:=sIf (zk4 (tVal (w2 (opEq false) (oVal (w2 opIx (oPk 2) (oVal (wC (.int 0))))) (oVal (wC (.str "weight"))))) (tTru (oVal (zaI zc3 (zae (oFz (w2 opIx (oPk 2) (oVal (wC (.int 1))))) (zae (oFz (wN zcc (zae (oPk 0) (aNil)))) (aNil)))))))
 (zkO)
 (sNx)
def zcH:WS:=sIf (tOrW (tVal (w2 (opEq true) (oVal (w2 opIx (oPk 2) (oVal (wC (.int 0))))) (oVal (wC (.str "none"))))) (tOrW (zl5 (tTru (oVal (zaI zc3 (zae (oFz (w2 opIx (oPk 2) (oVal (wC (.int 1))))) (zae (oFz (wN zcc (zae (oPk 1) (aNil)))) (aNil))))))) (tVal (w2 (zfW .lt) (oVal (wN ztC (zae (oVal (w2 opIx (oPk 2) (oVal (wC (.int 1))))) (aNil)))) (oVal (wC (.int 1)))))))
 (sRet (oVal (wC (.bl false))))
 (sNx)
def zgh:WS:=sIf (tVal (w2 (zfW .gt) (oVal (wN zvX (zae (oVal (wLc (iZp (w2 opIx (oPk 2) (oVal (wC (.int 1)))) (wVar 3)) (.tp [.nm 9,.nm 4]) (zd5) (w2 ze8 (oPk 9) (oVal (w2 opIx (oPk 4) (oPk 5)))) [9,4])) (aNil)))) (oVal (wC (.int 0)))))
 (sRet (oVal (wC (.bl false))))
 (sNx)
def zbV:WS:=sSeq (sFrz 3) (sFor (iR1 (oVal (wN zcc (zae (oPk 0) (aNil))))) (.nm 5)
 (zgh))
def zaX:WS:=sRet (oVal (wC (.bl true)))
def zi6:WS:=sSeq (zgZ) (sSeq (zfd) (sSeq (zdR) (sSeq (zcH) (sSeq (zbV) (zaX)))))
abbrev zdp:Type:=Bool
def zeN (told_1:D) (d_2:D) (s_1:Unit) (K:(Unit)->R (zdp)):R (zdp) :=
 R.bind (nIx told_1 (.int 1)) λt_10 =>
 R.bind (nZip t_10 d_2) λds_2 =>
 R.bind (lcM (λd_3:D=>R.bind (nUn2 d_3) λp_1=>R.bind (nMul p_1.1 p_1.2) λt_11=>.ok t_11.d) ds_2) λxs_2 =>
 R.bind (nSum (.lst xs_2)) λt_12 =>
 R.bind (nOrd .lt t_12 (.int 1)) λt_13 =>
 if t_13=true then
 .ok false
 else
 K ()
def zeO (told_1:D) (xs_1:List D) (d_4:D) (s_3:Unit) (K:(Unit)->R (zdp)):R (zdp) :=
 R.bind (nIx told_1 (.int 1)) λt_23 =>
 R.bind (nZip t_23 (.lst xs_1)) λds_4 =>
 R.bind (lcM (λd_5:D=>R.bind (nUn2 d_5) λp_2=>R.bind (nIx p_2.2 d_4) λt_24=>R.bind (nMul p_2.1 t_24) λt_25=>.ok t_25.d) ds_4) λxs_3 =>
 R.bind (nSum (.lst xs_3)) λt_26 =>
 R.bind (nOrd .gt t_26 (.int 0)) λt_27 =>
 if t_27=true then
 .ok false
 else
 K ()
@[irreducible] def zc4 (stock_1:D) (rules_1:D) (told_1:D):R (zdp) :=
  R.bind (nIsi "tuple" told_1) λt_1 =>
  R.bind (orB (!t_1) (R.bind (nLen told_1) λt_2=>nEq true t_2 (.int 2))) λc_1 =>
  if c_1=true then
  .ok false
  else
  R.bind (zcX rules_1) λds_1 =>
  R.bind (lcM (λd_1:D=>R.bind (zgF stock_1 d_1) λt_4=>.ok ((.lst t_4))) ds_1) λxs_1 =>
  R.bind (nIx told_1 (.int 0)) λt_5 =>
  R.bind (nEq false t_5 (.str "weight")) λt_6 =>
  R.bind (andB t_6 (R.bind (nIx told_1 (.int 1)) λt_7=>R.bind (nLen stock_1) λt_8=>zc2 t_7 t_8)) λc_2 =>
  if c_2=true then
  R.forN (zeN told_1) (λ(s_2:Unit) =>
  .ok true) xs_1 ()
  else
  R.bind (nIx told_1 (.int 0)) λt_14 =>
  R.bind (nEq true t_14 (.str "none")) λt_15 =>
  R.bind (orB t_15 (R.bind (nIx told_1 (.int 1)) λt_16=>R.bind (nLen rules_1) λt_17=>R.bind (zc2 t_16 t_17) λt_18=>orB (!t_18) (R.bind (nIx told_1 (.int 1)) λt_19=>R.bind (ztF t_19) λt_20=>nOrd .lt t_20 (.int 1)))) λc_4 =>
  if c_4=true then
  .ok false
  else
  R.bind (nLen stock_1) λt_22 =>
  R.bind (nR1 t_22) λds_3 =>
  R.forN (zeO told_1 xs_1) (λ(s_4:Unit) =>
  .ok true) ds_3 ()
abbrev zfG (ms:List M) (Q:M->En->Prop) (X:Xn->Prop):Prop:=∃ (stock_1:D) (rules_1:D) (told_1:D),ms=[(.fz stock_1),(.fz rules_1),(.fz told_1)]/\(zc4 stock_1 rules_1 told_1).post (λr=>Q (M.fz (.bl r)) [none,none,none]) X
abbrev zc5:Fn:=⟨3,[],zfG⟩
theorem zkP:zbm zfG:=λms Q Q' X X' hq hx ⟨stock_1,rules_1,told_1,e,h⟩=>⟨stock_1,rules_1,told_1,e,zay h (λ_ h=>hq _ _ h) hx⟩
theorem zou (ms:List M) (Q:M->En->Prop) (X:Xn->Prop) (h:zfG ms Q X):wFn 10 3 [] zi6 ms Q X:=by
 obtain ⟨stock_1,rules_1,told_1,rfl,h⟩:=h
 unfold zc4 at h
 refine zbk (e0:=[some (.fz stock_1),some (.fz rules_1),some (.fz told_1),none,none,none,none,none,none,none]) rfl λE hrt hnx hx => ?_
 show (sSeq zgZ (sSeq zfd (sSeq zdR (sSeq zcH (sSeq zbV (zaX)))))) _ _
 refine zar @(zeT @(zmv @(zj0 @(zgS @(zag @(k_wN @(k_ac @(k_pk rfl @(k_ac @(zag @(k_c @(k_an @(zbn rfl @(zao @(zak @(zvP h λt_1 h=>k_wv @(zhG @(zmw (λ(v:Bool)=>v) (λ(v:Bool)=>[some (.fz stock_1),some (.fz rules_1),some (.fz told_1),none,none,none,none,none,none,none]) h (λJ3 h=>J3 true h) (λJ3 h=>zaN @(k_w2 @(zag @(k_wN @(k_ac @(k_pk rfl @(k_an @(zbn rfl @(zak @(zcz (asc h) λt_2 h=>zag @(k_c @(k_wv @(k_wv @(k_eq h λt_3 h=>j_tv (J3 t_3 h))))))))))))))) (λc_1 h=>zfb h (λh => ?_) (λh => ?_))))))))))))))))))))
 ·refine za1 @(k_c (hrt _ _ h))
 ·refine k_nx ?_
  show (sSeq zfd (sSeq zdR (sSeq zcH (sSeq zbV (zaX))))) _ [some (.fz stock_1),some (.fz rules_1),some (.fz told_1),none,none,none,none,none,none,none]
  refine zar @(zaP @(k_lc @(zdy @(zam rfl @(zcV h λds_1 h=>zg7 h (λd_1 S KK hk h=>g_nm @(zas (fn:=zjA) @(k_ac @(k_fz @(zam rfl @(k_ac @(k_fz @(zam rfl @(k_an @(zau @(zau @(zaJ ⟨rfl,_,_,rfl,zaq h (λt_4 h=>hk _ _ rfl h) (λ_ z=>z.elim)⟩)))))))))))) λxs_1 h => ?_)))))
  show (sSeq zdR (sSeq zcH (sSeq zbV (zaX)))) _ [some (.fz stock_1),some (.fz rules_1),some (.fz told_1),some (.lst xs_1),none,none,none,none,none,none]
  refine zar @(zeT @(zj1 @(zaN @(k_w2 @(zag @(k_w2 @(k_pk rfl @(zag @(k_c @(k_wp rfl @(k_wv @(k_ix h λt_5 h=>zag @(k_c @(k_wv @(k_wv @(k_eq h λt_6 h=>j_tv @(zj2 (λ(v:Bool)=>v) (λ(v:Bool)=>[some (.fz stock_1),some (.fz rules_1),some (.fz told_1),some (.lst xs_1),none,none,none,none,none,none]) h (λJ2 h=>zgS @(zag @(zas (fn:=zc3) @(k_ac @(k_fz @(k_w2 @(k_pk rfl @(zag @(k_c @(k_wp rfl @(k_wv @(k_ix (asc h) λt_7 h=>k_ac @(k_fz @(k_wN @(k_ac @(k_pk rfl @(k_an @(zbn rfl @(zak @(zcz (asc h) λt_8 h=>k_an @(zau @(zau @(zaJ ⟨rfl,_,_,rfl,zaq h (λt_9 h=>k_wv @(zhG (J2 t_9 h))) (λx z=>hx x _ z)⟩))))))))))))))))))))))) (λJ2 h=>J2 false h) (λc_2 h=>zfb h (λh => ?_) (λh => ?_)))))))))))))))))))
  ·refine zar @(zfc @(zdy @(zms rfl @(zyK rfl @(zj3 (λ(s_1:Unit) (j_1:Option M)=>[some (.fz stock_1),some (.fz rules_1),some (.fz told_1),some (.fz (.lst xs_1)),j_1,none,none,none,none,none]) ?_ ?_ _ () none h)))))
   ·intro d_2 s_1 j_1 N K hn h
    refine g_nm (?_)
    show ze0 _ [some (.fz stock_1),some (.fz rules_1),some (.fz told_1),some (.fz (.lst xs_1)),some (.fz d_2),none,none,none,none,none]
    refine zeT @(zaN @(k_w2 @(zag @(k_wN @(k_ac @(zag @(k_lc @(zyY @(k_w2 @(k_pk rfl @(zag @(k_c @(k_wp rfl @(k_wv @(k_ix h λt_10 h=>zam rfl @(zyZ h λds_2 h=>zg7 h (λd_3 S KK hk h=>zbF h λp_1 h=>zaB @(g_nm @(zaB @(g_nm @(zdB @(k_w2 @(k_pk rfl @(k_pk rfl @(k_wp rfl @(k_wp rfl @(zmq h λt_11 h=>hk _ _ rfl h))))))))))) λxs_2 h=>k_an @(zao @(zak @(k_sum h λt_12 h=>zag @(k_c @(k_wv @(k_wv @(zji h λt_13 h=>j_tv @(zfb h (λh => ?_) (λh => ?_)))))))))))))))))))))))))
    ·refine za1 @(k_c (hrt _ _ h))
    ·refine k_nx ?_
     exact hn () (some (.fz d_2)) h
   ·intro s_2 j_2 h
    try with_reducible show zcw _ _
    show zcw _ [some (.fz stock_1),some (.fz rules_1),some (.fz told_1),some (.fz (.lst xs_1)),j_2,none,none,none,none,none]
    refine za1 @(k_c (hrt _ _ h))
  ·refine k_nx ?_
   show (sSeq zcH (sSeq zbV (zaX))) _ [some (.fz stock_1),some (.fz rules_1),some (.fz told_1),some (.lst xs_1),none,none,none,none,none,none]
   refine zar @(zeT @(zmv @(zaN @(k_w2 @(zag @(k_w2 @(k_pk rfl @(zag @(k_c @(k_wp rfl @(k_wv @(k_ix h λt_14 h=>zag @(k_c @(k_wv @(k_wv @(k_eq h λt_15 h=>j_tv @(zmw (λ(v:Bool)=>v) (λ(v:Bool)=>[some (.fz stock_1),some (.fz rules_1),some (.fz told_1),some (.lst xs_1),none,none,none,none,none,none]) h (λJ0 h=>J0 true h) (λJ0 h=>zmv @(zj0 @(zgS @(zag @(zas (fn:=zc3) @(k_ac @(k_fz @(k_w2 @(k_pk rfl @(zag @(k_c @(k_wp rfl @(k_wv @(k_ix (asc h) λt_16 h=>k_ac @(k_fz @(k_wN @(k_ac @(k_pk rfl @(k_an @(zbn rfl @(zak @(zcz (asc h) λt_17 h=>k_an @(zau @(zau @(zaJ ⟨rfl,_,_,rfl,zaq (asc h) (λt_18 h=>k_wv @(zhG @(zmw (λ(v:Bool)=>v) (λ(v:Bool)=>[some (.fz stock_1),some (.fz rules_1),some (.fz told_1),some (.lst xs_1),none,none,none,none,none,none]) h (λJ1 h=>J1 true h) (λJ1 h=>zaN @(k_w2 @(zag @(k_wN @(k_ac @(zag @(k_w2 @(k_pk rfl @(zag @(k_c @(k_wp rfl @(k_wv @(k_ix (asc h) λt_19 h=>k_an @(zao @(zak @(k_sum2 (asc h) λt_20 h=>zag @(k_c @(k_wv @(k_wv @(zji h λt_21 h=>j_tv (J1 t_21 h))))))))))))))))))))) (λc_3 h=>J0 c_3 h)))) (λx z=>hx x _ z)⟩))))))))))))))))))))))))) (λc_4 h=>zfb h (λh => ?_) (λh => ?_)))))))))))))))))))
   ·refine za1 @(k_c (hrt _ _ h))
   ·refine k_nx ?_
    show (sSeq zbV (zaX)) _ [some (.fz stock_1),some (.fz rules_1),some (.fz told_1),some (.lst xs_1),none,none,none,none,none,none]
    refine zar @(k_frzS rfl (?_))
    refine zfc @(zig @(zag @(k_wN @(k_ac @(k_pk rfl @(k_an @(zbn rfl @(zak @(zcz h λt_22 h=>k_wv @(k_r1 h λds_3 h=>zj3 (λ(s_3:Unit) (j_3:Option M)=>[some (.fz stock_1),some (.fz rules_1),some (.fz told_1),some (.fz (.lst xs_1)),none,j_3,none,none,none,none]) ?_ ?_ _ () none h))))))))))
    ·intro d_4 s_3 j_3 N K hn h
     refine g_nm (?_)
     show zgh _ [some (.fz stock_1),some (.fz rules_1),some (.fz told_1),some (.fz (.lst xs_1)),none,some (.fz d_4),none,none,none,none]
     refine zeT @(zaN @(k_w2 @(zag @(k_wN @(k_ac @(zag @(k_lc @(zyY @(k_w2 @(k_pk rfl @(zag @(k_c @(k_wp rfl @(k_wv @(k_ix h λt_23 h=>zam rfl @(zyZ h λds_4 h=>zg7 h (λd_5 S KK hk h=>zbF h λp_2 h=>zaB @(g_nm @(zaB @(g_nm @(zdB @(k_w2 @(k_pk rfl @(zag @(k_w2 @(k_pk rfl @(k_pk rfl @(k_wp rfl @(k_wp rfl @(k_ix h λt_24 h=>k_wp rfl @(k_wv @(zmq h λt_25 h=>hk _ _ rfl h)))))))))))))))) λxs_3 h=>k_an @(zao @(zak @(k_sum h λt_26 h=>zag @(k_c @(k_wv @(k_wv @(zji h λt_27 h=>j_tv @(zfb h (λh => ?_) (λh => ?_)))))))))))))))))))))))))
     ·refine za1 @(k_c (hrt _ _ h))
     ·refine k_nx ?_
      exact hn () (some (.fz d_4)) h
    ·intro s_4 j_4 h
     try with_reducible show zaX _ _
     show zaX _ [some (.fz stock_1),some (.fz rules_1),some (.fz told_1),some (.fz (.lst xs_1)),none,j_4,none,none,none,none]
     refine za1 @(k_c (hrt _ _ h))
def zg0:WS:=sIf (tOrW (zl5 (tVal (zlp (zfW .le) (zfW .le) (oVal (wC (.int 1))) (oVal (wN zcc (zae (oVal (w2 opIx (oPk 0) (oVal (wC (.int 1))))) (aNil)))) (oVal (wC (.int 3)))))) (tVal (w2 (opEq true) (oVal (w2 opIx (oPk 0) (oVal (wC (.int 3))))) (oVal (wN zbr (aNil))))))
 (sRet (oVal (wC (.bl false))))
 (sNx)
def zfe:WS:=sSet 1 (wKl [.int 0])
def zgM:WS:=sIf (zk4 (tVal (w2 (opEq false) (oVal (w2 opIx (oPk 3) (oVal (wC (.int 0))))) (oVal (w1 zoZ (oVal (wC (.int 1))))))) (tVal (w2 (opEq false) (oVal (w2 opIx (oPk 4) (oVal (wC (.int 0))))) (oVal (w1 zoZ (oVal (wC (.int 1))))))))
 (sRet (oVal (wC (.bl false))))
 (sNx)
def zbx:WS:=sIf (zk4 (tVal (w2 (opEq true) (oVal (w2 opIx (oPk 3) (oVal (wC (.int 0))))) (oVal (w1 zoZ (oVal (wC (.int 1))))))) (tVal (w2 (opEq true) (oVal (w2 (opIn false) (oVal (w2 opIx (oPk 3) (oVal (wC (.int 0))))) (oPk 1))) (oVal (w2 (opIn false) (oVal (w2 opIx (oPk 4) (oVal (wC (.int 0))))) (oPk 1))))))
 (zee (wMut "list" za8 1 (zae (oFz (wIf (tVal (w2 (opIn false) (oVal (w2 opIx (oPk 4) (oVal (wC (.int 0))))) (oPk 1))) (w2 opIx (oPk 3) (oVal (wC (.int 0)))) (w2 opIx (oPk 4) (oVal (wC (.int 0)))))) (aNil))))
 (sNx)
def ze1:WS:=sSeq (zgM) (zbx)
def zgi:WS:=sFor (iSeq (w2 opIx (oPk 0) (oVal (wC (.int 2))))) (.tp [.nm 3,.nm 4])
 (ze1)
def zdS:WS:=sFor (iSeq (w2 opIx (oPk 0) (oVal (wC (.int 1))))) (.nm 2)
 (zgi)
def zbs:WS:=sRet (oVal (w2 (opEq false) (oVal (wN zcc (zae (oPk 1) (aNil)))) (oVal (wN zcc (zae (oVal (w2 opIx (oPk 0) (oVal (wC (.int 1))))) (aNil))))))
def zi7:WS:=sSeq (zg0) (sSeq (zfe) (sSeq (zdS) (zbs)))
abbrev zdq:Type:=Bool
def zbg (d_2:D) (s_2:List D) (K:(List D)->R (zdq)):R (zdq) :=
 R.bind (nUn2 d_2) λp_1 =>
 R.bind (nIx p_1.1 (.int 0)) λt_9 =>
 R.bind (nNeg (.int 1)) λt_10 =>
 R.bind (nEq false t_9 t_10) λt_11 =>
 R.bind (andB t_11 (R.bind (nIx p_1.2 (.int 0)) λt_12=>R.bind (nNeg (.int 1)) λt_13=>nEq false t_12 t_13)) λc_3 =>
 if c_3=true then
 .ok false
 else
 R.bind (nIx p_1.1 (.int 0)) λt_15 =>
 R.bind (nNeg (.int 1)) λt_16 =>
 R.bind (nEq true t_15 t_16) λt_17 =>
 R.bind (andB t_17 (R.bind (nIx p_1.1 (.int 0)) λt_18=>R.bind (nIn false t_18 (.lst s_2)) λt_19=>R.bind (nIx p_1.2 (.int 0)) λt_20=>R.bind (nIn false t_20 (.lst s_2)) λt_21=>nEq true (.bl t_19) (.bl t_21))) λc_4 =>
 if c_4=true then
 R.bind (nIx p_1.2 (.int 0)) λt_23 =>
 R.bind (nIn false t_23 (.lst s_2)) λt_24 =>
 R.bind (if t_24=true then (nIx p_1.1 (.int 0):R (D)) else nIx p_1.2 (.int 0)) λt_27 =>
 R.bind (nApp s_2 t_27) λmet_1 =>
 K met_1
 else
 K s_2
def zbD (net_1:D) (d_1:D) (s_1:List D) (K:(List D)->R (zdq)):R (zdq) :=
 R.bind (nIx net_1 (.int 2)) λt_8 =>
 R.bind (zcX t_8) λds_2 =>
 R.forN (zbg) (λ(s_3:List D) =>
 K s_3) ds_2 s_1
@[irreducible] def zc6 (net_1:D):R (zdq) :=
  R.bind (nIx net_1 (.int 1)) λt_1 =>
  R.bind (nLen t_1) λt_2 =>
  R.bind (nOrd .le (.int 1) t_2) λt_3 =>
  R.bind (andB t_3 (nOrd .le t_2 (.int 3))) λc_1 =>
  R.bind (orB (!c_1) (R.bind (nIx net_1 (.int 3)) λt_5=>nEq true t_5 (.tup []))) λc_2 =>
  if c_2=true then
  .ok false
  else
  R.bind (nIx net_1 (.int 1)) λt_7 =>
  R.bind (zcX t_7) λds_1 =>
  R.forN (zbD net_1) (λ(s_4:List D) =>
  R.bind (nLen (.lst s_4)) λt_28 =>
  R.bind (nIx net_1 (.int 1)) λt_29 =>
  R.bind (nLen t_29) λt_30 =>
  R.bind (nEq false t_28 t_30) λt_31 =>
  .ok t_31) ds_1 [.int 0]
abbrev zfH (ms:List M) (Q:M->En->Prop) (X:Xn->Prop):Prop:=∃ (net_1:D),ms=[(.fz net_1)]/\(zc6 net_1).post (λr=>Q (M.fz (.bl r)) [none]) X
abbrev ze2:Fn:=⟨1,[],zfH⟩
theorem zkQ:zbm zfH:=λms Q Q' X X' hq hx ⟨net_1,e,h⟩=>⟨net_1,e,zay h (λ_ h=>hq _ _ h) hx⟩
theorem zov (ms:List M) (Q:M->En->Prop) (X:Xn->Prop) (h:zfH ms Q X):wFn 5 1 [] zi7 ms Q X:=by
 obtain ⟨net_1,rfl,h⟩:=h
 unfold zc6 at h
 refine zbk (e0:=[some (.fz net_1),none,none,none,none]) rfl λE hrt hnx hx => ?_
 show (sSeq zg0 (sSeq zfe (sSeq zdS (zbs)))) _ _
 refine zar @(zeT @(zmv @(zj0 @(zaN @(zyC @(zag @(k_c @(zag @(k_wN @(k_ac @(zag @(k_w2 @(k_pk rfl @(zag @(k_c @(k_wp rfl @(k_wv @(k_ix h λt_1 h=>k_an @(zao @(zak @(zcz h λt_2 h=>k_wv @(k_wv @(zji h λt_3 h=>zyD (λ(v:Bool)=>M.fz (.bl v)) (λ(v:Bool)=>[some (.fz net_1),none,none,none,none]) h (λJ28 h=>zag @(k_c @(k_wv @(k_wv @(zji h λt_4 h=>J28 t_4 h))))) (λJ28 h=>J28 false h) (λc_1 h=>j_tv @(zmw (λ(v:Bool)=>v) (λ(v:Bool)=>[some (.fz net_1),none,none,none,none]) h (λJ27 h=>J27 true h) (λJ27 h=>zaN @(k_w2 @(zag @(k_w2 @(k_pk rfl @(zag @(k_c @(k_wp rfl @(k_wv @(k_ix (asc h) λt_5 h=>zag @(k_wN @(k_an @(zak @(zce rfl rfl @(k_wv @(k_wv @(k_eq h λt_6 h=>j_tv (J27 t_6 h)))))))))))))))))) (λc_2 h=>zfb h (λh => ?_) (λh => ?_)))))))))))))))))))))))))))
 ·refine za1 @(k_c (hrt _ _ h))
 ·refine k_nx ?_
  show (sSeq zfe (sSeq zdS (zbs))) _ [some (.fz net_1),none,none,none,none]
  refine zar @(zaP @(k_kl (?_)))
  show (sSeq zdS (zbs)) _ [some (.fz net_1),some (.lst [.int 0]),none,none,none]
  refine zar @(zfc @(zdy @(k_w2 @(k_pk rfl @(zag @(k_c @(k_wp rfl @(k_wv @(k_ix h λt_7 h=>zcV h λds_1 h=>zj3 (λ(s_1:List D) (j_1:Option M×Option M×Option M)=>[some (.fz net_1),some (.lst s_1),j_1.1,j_1.2.1,j_1.2.2]) ?_ ?_ _ [.int 0] (none,none,none) h)))))))))
  ·intro d_1 s_1 j_1 N K hn h
   refine g_nm (?_)
   show zgi _ [some (.fz net_1),some (.lst s_1),some (.fz d_1),j_1.2.1,j_1.2.2]
   refine zfc @(zdy @(k_w2 @(k_pk rfl @(zag @(k_c @(k_wp rfl @(k_wv @(k_ix h λt_8 h=>zcV h λds_2 h=>zj3 (λ(s_2:List D) (j_2:Option M×Option M)=>[some (.fz net_1),some (.lst s_2),some (.fz d_1),j_2.1,j_2.2]) ?_ ?_ _ s_1 (j_1.2.1,j_1.2.2) h))))))))
   ·intro d_2 s_2 j_2 N K hn h
    refine zbF h λp_1 h=>zaB @(g_nm @(zaB @(g_nm @(zdB (?_)))))
    show ze1 _ [some (.fz net_1),some (.lst s_2),some (.fz d_1),some (.fz p_1.1),some (.fz p_1.2)]
    refine zar @(zeT @(zj1 @(zaN @(k_w2 @(zag @(k_w2 @(k_pk rfl @(zag @(k_c @(k_wp rfl @(k_wv @(k_ix h λt_9 h=>zag @(k_w1 @(zag @(k_c @(k_wv @(zsZ h λt_10 h=>k_wv @(k_wv @(k_eq h λt_11 h=>j_tv @(zj2 (λ(v:Bool)=>v) (λ(v:Bool)=>[some (.fz net_1),some (.lst s_2),some (.fz d_1),some (.fz p_1.1),some (.fz p_1.2)]) h (λJ26 h=>zaN @(k_w2 @(zag @(k_w2 @(k_pk rfl @(zag @(k_c @(k_wp rfl @(k_wv @(k_ix (asc h) λt_12 h=>zag @(k_w1 @(zag @(k_c @(k_wv @(zsZ (asc h) λt_13 h=>k_wv @(k_wv @(k_eq h λt_14 h=>j_tv (J26 t_14 h)))))))))))))))))) (λJ26 h=>J26 false h) (λc_3 h=>zfb h (λh => ?_) (λh => ?_))))))))))))))))))))))
    ·refine za1 @(k_c (hrt _ _ h))
    ·refine k_nx ?_
     try with_reducible show zbx _ _
     show zbx _ [some (.fz net_1),some (.lst s_2),some (.fz d_1),some (.fz p_1.1),some (.fz p_1.2)]
     refine zeT @(zj1 @(zaN @(k_w2 @(zag @(k_w2 @(k_pk rfl @(zag @(k_c @(k_wp rfl @(k_wv @(k_ix h λt_15 h=>zag @(k_w1 @(zag @(k_c @(k_wv @(zsZ h λt_16 h=>k_wv @(k_wv @(k_eq h λt_17 h=>j_tv @(zj2 (λ(v:Bool)=>v) (λ(v:Bool)=>[some (.fz net_1),some (.lst s_2),some (.fz d_1),some (.fz p_1.1),some (.fz p_1.2)]) h (λJ25 h=>zaN @(k_w2 @(zag @(k_w2 @(zag @(k_w2 @(k_pk rfl @(zag @(k_c @(k_wp rfl @(k_wv @(k_ix (asc h) λt_18 h=>k_pk rfl @(k_wv @(k_wp rfl @(k_in (asc h) λt_19 h=>zag @(k_w2 @(zag @(k_w2 @(k_pk rfl @(zag @(k_c @(k_wp rfl @(k_wv @(k_ix (asc h) λt_20 h=>k_pk rfl @(k_wv @(k_wp rfl @(k_in (asc h) λt_21 h=>k_wv @(k_wv @(k_eq h λt_22 h=>j_tv (J25 t_22 h)))))))))))))))))))))))))))))) (λJ25 h=>J25 false h) (λc_4 h=>zfb h (λh => ?_) (λh => ?_)))))))))))))))))))))
     ·refine zcB @(zeE rfl rfl @(k_ac @(k_fz @(zyA @(zaN @(k_w2 @(zag @(k_w2 @(k_pk rfl @(zag @(k_c @(k_wp rfl @(k_wv @(k_ix h λt_23 h=>k_pk rfl @(k_wv @(k_wp rfl @(k_in h λt_24 h=>j_tv @(zyB (λ(v:D)=>M.fz v) (λ(v:D)=>[some (.fz net_1),some (.lst s_2),some (.fz d_1),some (.fz p_1.1),some (.fz p_1.2)]) h (λJ24 h=>k_w2 @(k_pk rfl @(zag @(k_c @(k_wp rfl @(k_wv @(k_ix h λt_25 h=>J24 t_25 h))))))) (λJ24 h=>k_w2 @(k_pk rfl @(zag @(k_c @(k_wp rfl @(k_wv @(k_ix h λt_26 h=>J24 t_26 h))))))) (λt_27 h=>k_an @(zeF rfl rfl @(zao @(zak @(zfZ h λmet_1 h => ?_)))))))))))))))))))))))
      exact hn met_1 ((some (.fz p_1.1)),(some (.fz p_1.2))) h
     ·refine k_nx ?_
      exact hn s_2 ((some (.fz p_1.1)),(some (.fz p_1.2))) h
   ·intro s_3 j_3 h
    exact hn s_3 ((some (.fz d_1)),j_3.1,j_3.2) h
  ·intro s_4 j_4 h
   try with_reducible show zbs _ _
   show zbs _ [some (.fz net_1),some (.lst s_4),j_4.1,j_4.2.1,j_4.2.2]
   refine za1 @(k_w2 @(zag @(k_wN @(k_ac @(k_pk rfl @(k_an @(zbn rfl @(zak @(zcz h λt_28 h=>zag @(k_wN @(k_ac @(zag @(k_w2 @(k_pk rfl @(zag @(k_c @(k_wp rfl @(k_wv @(k_ix h λt_29 h=>k_an @(zao @(zak @(zcz h λt_30 h=>k_wv @(k_wv @(k_eq h λt_31 h=>hrt _ _ h))))))))))))))))))))))))
def zi8:WS:=sSet 4 (wN zbR (aNil))
def zkR:WS:=sAsg (.tp [.nm 6,.nm 7]) (zaI zjz (zae (oPk 0) (zae (oFz (wVar 1)) (aNil))))
def zgj:WS:=zee (wMut "list" za8 4 (zae (oFz (wN zbr (zae (oFz (wVar 6)) (zae (oFz (wVar 7)) (aNil))))) (aNil)))
def zco:WS:=sIf (zk4 (tTru (oPk 3)) (zk4 (tTru (oVal (zaI ze2 (zae (oFz (wVar 7)) (aNil))))) (tVal (w2 (opEq false) (oVal (zaI zal (zae (oPk 0) (zae (oVal (wC (.int 2))) (aNil))))) (oVal (wC (.int 0)))))))
 (zee (wMut "list" za8 4 (zae (oFz (wN zbr (zae (oFz (wVar 7)) (zae (oFz (wVar 6)) (aNil))))) (aNil))))
 (sNx)
def zhZ:WS:=sSeq (zkR) (sSeq (zgj) (zco))
def zgk:WS:=sFor (iR1 (oVal (zaI zal (zae (oPk 0) (zae (oFz (wVar 2)) (aNil)))))) (.nm 5)
 (zhZ)
def zc7:WS:=sRet (oPk 4)
def zlS:WS:=sSeq (zi8) (sSeq (zgk) (zc7))
abbrev zpv:Type:=List D×List D
def zen (stock_1:D) (about_1:D) (d_1:D) (s_1:List D×List D):R (List D×List D) :=
 R.bind (zhY s_1.1 stock_1) λt_2 =>
 R.bind (nUn2 t_2.1) λp_1 =>
 R.bind (nApp s_1.2 (.tup [p_1.1,p_1.2])) λrules_1 =>
 R.bind (nTru about_1) λt_3 =>
 R.bind (if t_3=true then (R.bind (zc6 p_1.2) λt_4=>R.bind (if t_4=true then (R.bind (zaw t_2.2 (.int 2)) λt_5=>R.bind (nEq false t_5.1 (.int 0)) λt_6=>.ok ((t_6,t_5.2)):R (Bool×List D)) else .ok ((false,t_2.2))) λc_1=>.ok ((c_1.1,c_1.2)):R (Bool×List D)) else .ok ((false,t_2.2))) λc_2 =>
 if c_2.1=true then
 R.bind (nApp rules_1 (.tup [p_1.2,p_1.1])) λrules_2 =>
 .ok (c_2.2,rules_2)
 else
 .ok (c_2.2,rules_1)
@[irreducible] def zdI (held_1:List D) (stock_1:D) (most_1:D) (about_1:D):R (zpv) :=
  R.bind (zaw held_1 most_1) λt_1 =>
  R.bind (nR1 t_1.1) λds_1 =>
  R.bind (R.forS (zen stock_1 about_1) ds_1 (t_1.2,([]:List D))) λs_2 =>
  .ok (s_2.2,s_2.1)
abbrev zhl (ms:List M) (Q:M->En->Prop) (X:Xn->Prop):Prop:=∃ (held_1:List D) (stock_1:D) (most_1:D) (about_1:D),ms=[(.lst held_1),(.fz stock_1),(.fz most_1),(.fz about_1)]/\(zdI held_1 stock_1 most_1 about_1).post (λr=>Q (M.lst r.1) [some (.lst r.2),none,none,none]) X
abbrev zew:Fn:=⟨4,[0],zhl⟩
theorem zm2:zbm zhl:=λms Q Q' X X' hq hx ⟨held_1,stock_1,most_1,about_1,e,h⟩=>⟨held_1,stock_1,most_1,about_1,e,zay h (λ_ h=>hq _ _ h) hx⟩
theorem zr7 (ms:List M) (Q:M->En->Prop) (X:Xn->Prop) (h:zhl ms Q X):wFn 8 4 [0] zlS ms Q X:=by
 obtain ⟨held_1,stock_1,most_1,about_1,rfl,h⟩:=h
 unfold zdI at h
 refine zbk (e0:=[some (.lst held_1),some (.fz stock_1),some (.fz most_1),some (.fz about_1),none,none,none,none]) rfl λE hrt hnx hx => ?_
 show (sSeq zi8 (sSeq zgk (zc7))) _ _
 refine zar @(zaP @(k_wN @(k_an @(zak @(zcA rfl rfl (?_))))))
 show (sSeq zgk (zc7)) _ [some (.lst held_1),some (.fz stock_1),some (.fz most_1),some (.fz about_1),some (.lst ([]:List D)),none,none,none]
 refine zar @(zfc @(zig @(zag @(zas (fn:=zal) @(k_ac @(k_pk rfl @(k_ac @(k_fz @(zam rfl @(k_an @(zbj rfl @(zau @(zaJ ⟨rfl,_,_,rfl,zaq h (λt_1 h=>k_wv @(k_r1 h λds_1 h=>zcf (λ(s_1:List D×List D) (j_1:Option M×Option M×Option M)=>[some (.lst s_1.1),some (.fz stock_1),some (.fz most_1),some (.fz about_1),some (.lst s_1.2),j_1.1,j_1.2.1,j_1.2.2]) ?_ ?_ _ (t_1.2,([]:List D)) (none,none,none) h)) (λx z=>hx x _ z)⟩)))))))))))))
 ·intro d_1 s_1 j_1 N S hn h
  refine g_nm (?_)
  show zhZ _ [some (.lst s_1.1),some (.fz stock_1),some (.fz most_1),some (.fz about_1),some (.lst s_1.2),some (.fz d_1),j_1.2.1,j_1.2.2]
  refine zar @(zs4 @(zas (fn:=zjz) @(k_ac @(k_pk rfl @(k_ac @(k_fz @(zam rfl @(k_an @(zbj rfl @(zau @(zaJ ⟨rfl,_,_,rfl,zaq h (λt_2 h=>zbF h λp_1 h=>zaB @(g_nm @(zaB @(g_nm @(zdB (?_)))))) (λx z=>hx x _ z)⟩)))))))))))
  show (sSeq zgj (zco)) _ [some (.lst t_2.2),some (.fz stock_1),some (.fz most_1),some (.fz about_1),some (.lst s_1.2),some (.fz d_1),some (.fz p_1.1),some (.fz p_1.2)]
  refine zar @(zcB @(zeE rfl rfl @(k_ac @(k_fz @(zka (λQ hq=>k_wN @(k_ac @(k_fz @(zam rfl @(k_ac @(k_fz @(zam rfl @(k_an @(zao @(zao @(zak @(zce rfl rfl hq)))))))))))) @(k_an @(zeF rfl rfl @(zao @(zak @(zfZ h λrules_1 h => ?_))))))))))
  try with_reducible show zco _ _
  show zco _ [some (.lst t_2.2),some (.fz stock_1),some (.fz most_1),some (.fz about_1),some (.lst rules_1),some (.fz d_1),some (.fz p_1.1),some (.fz p_1.2)]
  refine zeT @(zj1 @(zgS @(k_pk rfl @(k_wp rfl @(k_tru h λt_3 h=>zj2 (λ(v:Bool×List D)=>v.1) (λ(v:Bool×List D)=>[some (.lst v.2),some (.fz stock_1),some (.fz most_1),some (.fz about_1),some (.lst rules_1),some (.fz d_1),some (.fz p_1.1),some (.fz p_1.2)]) h (λJ4 h=>zj1 @(zgS @(zag @(zas (fn:=ze2) @(k_ac @(k_fz @(zam rfl @(k_an @(zau @(zaJ ⟨rfl,_,rfl,zaq (asc h) (λt_4 h=>k_wv @(zhG @(zj2 (λ(v:Bool×List D)=>v.1) (λ(v:Bool×List D)=>[some (.lst v.2),some (.fz stock_1),some (.fz most_1),some (.fz about_1),some (.lst rules_1),some (.fz d_1),some (.fz p_1.1),some (.fz p_1.2)]) (asc h) (λJ5 h=>zaN @(k_w2 @(zag @(zas (fn:=zal) @(k_ac @(k_pk rfl @(k_ac @(zag @(k_c @(k_an @(zbj rfl @(zau @(zaJ ⟨rfl,_,_,rfl,zaq (asc h) (λt_5 h=>zag @(k_c @(k_wv @(k_wv @(k_eq (asc h) λt_6 h=>j_tv (J5 (t_6,t_5.2) h)))))) (λx z=>hx x _ z)⟩))))))))))))) (λJ5 h=>J5 (false,t_2.2) h) (λc_1 h=>J4 (c_1.1,c_1.2) h)))) (λx z=>hx x _ z)⟩)))))))))) (λJ4 h=>J4 (false,t_2.2) h) (λc_2 h=>zfb h (λh => ?_) (λh => ?_)))))))
  ·refine zcB @(zeE rfl rfl @(k_ac @(k_fz @(zka (λQ hq=>k_wN @(k_ac @(k_fz @(zam rfl @(k_ac @(k_fz @(zam rfl @(k_an @(zao @(zao @(zak @(zce rfl rfl hq)))))))))))) @(k_an @(zeF rfl rfl @(zao @(zak @(zfZ h λrules_2 h => ?_)))))))))
   exact hn (c_2.2,rules_2) ((some (.fz d_1)),(some (.fz p_1.1)),(some (.fz p_1.2))) h
  ·refine k_nx ?_
   exact hn (c_2.2,rules_1) ((some (.fz d_1)),(some (.fz p_1.1)),(some (.fz p_1.2))) h
 ·intro s_2 j_2 h
  try with_reducible show zc7 _ _
  show zc7 _ [some (.lst s_2.1),some (.fz stock_1),some (.fz most_1),some (.fz about_1),some (.lst s_2.2),j_2.1,j_2.2.1,j_2.2.2]
  refine ziT rfl (?_)
  exact hrt _ _ h
def zdb:WS:=sSet 2 (zaI zcj (zae (oFz (wVar 0)) (zae (oFz (wVar 1)) (aNil))))
def zbl:WS:=sSet 3 (zaI zgC (zae (oPk 2) (aNil)))
def zaR:WS:=sSet 4 (zaI zew (zae (oPk 2) (zae (oFz (wVar 3)) (zae (oVal (wC (.int 7))) (zae (oVal (wC (.bl false))) (aNil))))))
def zaH:WS:=sIf (tVal (w2 (opEq false) (oVal (zaI zal (zae (oVal (zaI zcj (zae (oFz (wVar 0)) (zae (oFz (w2 zcb (oPk 1) (oVal (wC (.int 1))))) (aNil))))) (zae (oVal (wC (.int 2))) (aNil))))) (oVal (wC (.int 1)))))
 (sSet 4 (w2 zcb (oVal (wSl opSl (oPk 4) (pNo) (pInt (wC (.int 2))))) (oVal (zaI zew (zae (oVal (zaI zcj (zae (oFz (wVar 0)) (zae (oFz (w2 zcb (oPk 1) (oVal (wC (.int 1))))) (aNil))))) (zae (oFz (wVar 3)) (zae (oVal (wC (.int 7))) (zae (oVal (wC (.bl true))) (aNil)))))))))
 (sNx)
def zaA:WS:=sSet 5 (wN zlo (zae (oPk 4) (aNil)))
def zat:WS:=sSet 6 (zaI zdV (zae (oFz (wVar 3)) (zae (oFz (wVar 4)) (aNil))))
def zap:WS:=sIf (tOrW (zl5 (tTru (oVal (zaI zc5 (zae (oFz (wVar 3)) (zae (oFz (wVar 5)) (zae (oFz (wVar 6)) (aNil)))))))) (tOrW (tVal (w2 (opEq true) (oPk 4) (oPk 5))) (tVal (w2 (opEq true) (oVal (zaI zdV (zae (oFz (wVar 3)) (zae (oFz (wVar 4)) (aNil))))) (oPk 6)))))
 (sRet (oVal (wC (.bl false))))
 (sNx)
def zai:WS:=sIf (zl5 (tTru (oVal (zaI zc5 (zae (oFz (wVar 3)) (zae (oFz (wN zbR (aNil))) (zae (oFz (zaI zdV (zae (oFz (wVar 3)) (zae (oFz (wN zbR (aNil))) (aNil))))) (aNil))))))))
 (sRet (oVal (wC (.bl false))))
 (sNx)
def zbt:WS:=sSeq (zdb) (sSeq (zbl) (sSeq (zaR) (sSeq (zaH) (sSeq (zaA) (sSeq (zat) (sSeq (zap) (zai)))))))
def zbE:WS:=sFor (iR3 (oVal (wC (.int 0))) (oVal (wN (opMx imax) (zae (oVal (wC (.int 1))) (zae (oVal (wN zcc (zae (oPk 0) (aNil)))) (aNil))))) (oVal (wC (.int 2)))) (.nm 1)
 (zbt)
def zaC:WS:=sRet (oVal (wC (.bl true)))
def zbU:WS:=sSeq (zbE) (zaC)
abbrev za2:Type:=Bool
def zaV (script_1:D) (d_1:D) (s_1:Unit) (K:(Unit)->R (za2)):R (za2) :=
 R.bind (zci script_1 d_1) λt_3 =>
 R.bind (zfo t_3) λt_4 =>
 R.bind (zdI t_4.2 t_4.1 (.int 7) (.bl false)) λt_5 =>
 R.bind (nAdd d_1 (.int 1)) λt_6 =>
 R.bind (zci script_1 t_6.d) λt_7 =>
 R.bind (zaw t_7 (.int 2)) λt_8 =>
 R.bind (nEq false t_8.1 (.int 1)) λt_9 =>
 R.bind (if t_9=true then (R.bind (nInt (.int 2)) λi_2 =>
 R.bind (nSl (.lst t_5.1) none (some i_2)) λt_15 =>
 R.bind (nAdd d_1 (.int 1)) λt_16 =>
 R.bind (zci script_1 t_16.d) λt_17 =>
 R.bind (zdI t_17 t_4.1 (.int 7) (.bl true)) λt_18 =>
 R.bind (zii t_15.d (.lst t_18.1)) λt_19 =>
 .ok t_19:R (List D)) else .ok t_5.1) λs_2 =>
 R.bind (zro (.lst s_2)) λt_20 =>
 R.bind (zdk t_4.1 (.lst s_2)) λt_21 =>
 R.bind (zc4 t_4.1 (.lst t_20) t_21) λt_22 =>
 R.bind (orB (!t_22) (R.bind (nEq true (.lst s_2) (.lst t_20)) λt_23=>orB t_23 (R.bind (zdk t_4.1 (.lst s_2)) λt_24=>nEq true t_24 t_21))) λc_2 =>
 if c_2=true then
 .ok false
 else
 R.bind (zdk t_4.1 (.lst ([]:List D))) λt_26 =>
 R.bind (zc4 t_4.1 (.lst ([]:List D)) t_26) λt_27 =>
 if (!t_27)=true then
 .ok false
 else
 K ()
@[irreducible] def zaG (script_1:D):R (za2) :=
  R.bind (nLen script_1) λt_1 =>
  R.bind (nMx imax (.int 1) t_1) λt_2 =>
  R.bind (nR3 (.int 0) t_2 (.int 2)) λds_1 =>
  R.forN (zaV script_1) (λ(s_3:Unit) =>
  .ok true) ds_1 ()
abbrev sp_law222222222222222222222222 (ms:List M) (Q:M->En->Prop) (X:Xn->Prop):Prop:=∃ (script_1:D),ms=[(.fz script_1)]/\(zaG script_1).post (λr=>Q (M.fz (.bl r)) [none]) X
abbrev zea:Fn:=⟨1,[],sp_law222222222222222222222222⟩
theorem zeb (ms:List M) (Q:M->En->Prop) (X:Xn->Prop) (h:sp_law222222222222222222222222 ms Q X):wFn 7 1 [] zbU ms Q X:=by
 obtain ⟨script_1,rfl,h⟩:=h
 unfold zaG at h
 refine zbk (e0:=[some (.fz script_1),none,none,none,none,none,none]) rfl λE hrt hnx hx => ?_
 show (sSeq zbE (zaC)) _ _
 refine zar @(zfc @(k_ir3 @(zag @(k_c @(zag @(k_wN @(k_ac @(zag @(k_c @(k_ac @(zag @(k_wN @(k_ac @(k_pk rfl @(k_an @(zbn rfl @(zak @(zcz h λt_1 h=>k_an @(zao @(zao @(zak @(k_mx h λt_2 h=>zag @(k_c @(k_wv @(k_wv @(k_wv @(k_r3 h λds_1 h=>zj3 (λ(s_1:Unit) (j_1:Option M×Option M×Option M×Option M×Option M×Option M)=>[some (.fz script_1),j_1.1,j_1.2.1,j_1.2.2.1,j_1.2.2.2.1,j_1.2.2.2.2.1,j_1.2.2.2.2.2]) ?_ ?_ _ () (none,none,none,none,none,none) h)))))))))))))))))))))))))))
 ·intro d_1 s_1 j_1 N K hn h
  refine g_nm (?_)
  show zbt _ [some (.fz script_1),some (.fz d_1),j_1.2.1,j_1.2.2.1,j_1.2.2.2.1,j_1.2.2.2.2.1,j_1.2.2.2.2.2]
  refine zar @(zaP @(zas (fn:=zcj) @(k_ac @(k_fz @(zam rfl @(k_ac @(k_fz @(zam rfl @(k_an @(zau @(zau @(zaJ ⟨rfl,_,_,rfl,zaq h (λt_3 h => ?_) (λx z=>hx x _ z)⟩))))))))))))
  show (sSeq zbl (sSeq zaR (sSeq zaH (sSeq zaA (sSeq zat (sSeq zap (zai))))))) _ [some (.fz script_1),some (.fz d_1),some (.lst t_3),j_1.2.2.1,j_1.2.2.2.1,j_1.2.2.2.2.1,j_1.2.2.2.2.2]
  refine zar @(zaP @(zas (fn:=zgC) @(k_ac @(k_pk rfl @(k_an @(zbj rfl @(zaJ ⟨rfl,_,rfl,zaq h (λt_4 h => ?_) (λx z=>hx x _ z)⟩)))))))
  show (sSeq zaR (sSeq zaH (sSeq zaA (sSeq zat (sSeq zap (zai)))))) _ [some (.fz script_1),some (.fz d_1),some (.lst t_4.2),some (.fz t_4.1),j_1.2.2.2.1,j_1.2.2.2.2.1,j_1.2.2.2.2.2]
  refine zar @(zaP @(zas (fn:=zew) @(k_ac @(k_pk rfl @(k_ac @(k_fz @(zam rfl @(k_ac @(zag @(k_c @(k_ac @(zag @(k_c @(k_an @(zbj rfl @(zau @(zau @(zau @(zaJ ⟨rfl,_,_,_,_,rfl,zaq h (λt_5 h => ?_) (λx z=>hx x _ z)⟩)))))))))))))))))))
  show (sSeq zaH (sSeq zaA (sSeq zat (sSeq zap (zai))))) _ [some (.fz script_1),some (.fz d_1),some (.lst t_5.2),some (.fz t_4.1),some (.lst t_5.1),j_1.2.2.2.2.1,j_1.2.2.2.2.2]
  refine zar @(zeT @(zaN @(k_w2 @(zag @(zas (fn:=zal) @(k_ac @(zag @(zas (fn:=zcj) @(k_ac @(k_fz @(zam rfl @(k_ac @(k_fz @(k_w2 @(k_pk rfl @(zag @(k_c @(k_wp rfl @(k_wv @(zfa h λt_6 h=>k_an @(zau @(zau @(zaJ ⟨rfl,_,_,rfl,zaq h (λt_7 h=>k_ac @(zag @(k_c @(k_an @(zau @(zau @(zaJ ⟨rfl,_,_,rfl,zaq h (λt_8 h=>zag @(k_c @(k_wv @(k_wv @(k_eq h λt_9 h=>j_tv @(j_sifJ (λ(s_2:List D) (j_2:Unit)=>[some (.fz script_1),some (.fz d_1),some (.lst t_5.2),some (.fz t_4.1),some (.lst s_2),j_1.2.2.2.2.1,j_1.2.2.2.2.2]) h (λJ h => ?_) (λJ h => ?_) (λs_2 j_2 h => ?_))))))) (λx z=>hx x _ z)⟩))))))) (λx z=>hx x _ z)⟩)))))))))))))))))))))))
  ·refine zaP @(k_w2 @(zag @(zmt @(k_pk rfl @(zmu @(zhE @(k_c @(zhF (asc h) λi_2 h=>k_wp rfl @(k_sl (asc h) λt_15 h=>zag @(zas (fn:=zew) @(k_ac @(zag @(zas (fn:=zcj) @(k_ac @(k_fz @(zam rfl @(k_ac @(k_fz @(k_w2 @(k_pk rfl @(zag @(k_c @(k_wp rfl @(k_wv @(zfa (asc h) λt_16 h=>k_an @(zau @(zau @(zaJ ⟨rfl,_,_,rfl,zaq (asc h) (λt_17 h=>k_ac @(k_fz @(zam rfl @(k_ac @(zag @(k_c @(k_ac @(zag @(k_c @(k_an @(zau @(zau @(zau @(zau @(zaJ ⟨rfl,_,_,_,_,rfl,zaq (asc h) (λt_18 h=>k_wv @(k_wv @(znH (asc h) λt_19 h => ?_))) (λx z=>hx x _ z)⟩))))))))))))))) (λx z=>hx x _ z)⟩))))))))))))))))))))))))))))
   exact J t_19 () h
  ·refine k_nx ?_
   exact J t_5.1 () h
  ·show (sSeq zaA (sSeq zat (sSeq zap (zai)))) _ [some (.fz script_1),some (.fz d_1),some (.lst t_5.2),some (.fz t_4.1),some (.lst s_2),j_1.2.2.2.2.1,j_1.2.2.2.2.2]
   refine zar @(zaP @(k_wN @(k_ac @(k_pk rfl @(k_an @(zbn rfl @(zak @(zs2 h λt_20 h => ?_))))))))
   show (sSeq zat (sSeq zap (zai))) _ [some (.fz script_1),some (.fz d_1),some (.lst t_5.2),some (.fz t_4.1),some (.lst s_2),some (.lst t_20),j_1.2.2.2.2.2]
   refine zar @(zaP @(zas (fn:=zdV) @(k_ac @(k_fz @(zam rfl @(k_ac @(k_fz @(zms rfl @(k_an @(zau @(zau @(zaJ ⟨rfl,_,_,rfl,zaq h (λt_21 h => ?_) (λx z=>hx x _ z)⟩))))))))))))
   show (sSeq zap (zai)) _ [some (.fz script_1),some (.fz d_1),some (.lst t_5.2),some (.fz t_4.1),some (.fz (.lst s_2)),some (.lst t_20),some (.fz t_21)]
   refine zar @(zeT @(zmv @(zj0 @(zgS @(zag @(zas (fn:=zc5) @(k_ac @(k_fz @(zam rfl @(k_ac @(k_fz @(zms rfl @(k_ac @(k_fz @(zam rfl @(k_an @(zau @(zau @(zau @(zaJ ⟨rfl,_,_,_,rfl,zaq h (λt_22 h=>k_wv @(zhG @(zmw (λ(v:Bool)=>v) (λ(v:Bool)=>[some (.fz script_1),some (.fz d_1),some (.lst t_5.2),some (.fz t_4.1),some (.fz (.lst s_2)),some (.fz (.lst t_20)),some (.fz t_21)]) h (λJ4 h=>J4 true h) (λJ4 h=>zmv @(zaN @(k_w2 @(k_pk rfl @(k_pk rfl @(k_wp rfl @(k_wp rfl @(k_eq (asc h) λt_23 h=>j_tv @(zmw (λ(v:Bool)=>v) (λ(v:Bool)=>[some (.fz script_1),some (.fz d_1),some (.lst t_5.2),some (.fz t_4.1),some (.fz (.lst s_2)),some (.fz (.lst t_20)),some (.fz t_21)]) h (λJ5 h=>J5 true h) (λJ5 h=>zaN @(k_w2 @(zag @(zas (fn:=zdV) @(k_ac @(k_fz @(zam rfl @(k_ac @(k_fz @(zam rfl @(k_an @(zau @(zau @(zaJ ⟨rfl,_,_,rfl,zaq (asc h) (λt_24 h=>k_pk rfl @(k_wv @(k_wp rfl @(k_eq h λt_25 h=>j_tv (J5 t_25 h))))) (λx z=>hx x _ z)⟩)))))))))))))) (λc_1 h=>J4 c_1 h)))))))))) (λc_2 h=>zfb h (λh => ?_) (λh => ?_))))) (λx z=>hx x _ z)⟩))))))))))))))))))))
   ·refine za1 @(k_c (hrt _ _ h))
   ·refine k_nx ?_
    try with_reducible show zai _ _
    show zai _ [some (.fz script_1),some (.fz d_1),some (.lst t_5.2),some (.fz t_4.1),some (.fz (.lst s_2)),some (.fz (.lst t_20)),some (.fz t_21)]
    refine zeT @(zj0 @(zgS @(zag @(zas (fn:=zc5) @(k_ac @(k_fz @(zam rfl @(k_ac @(k_fz @(k_wN @(k_an @(zak @(zcA rfl rfl @(k_ac @(k_fz @(zas (fn:=zdV) @(k_ac @(k_fz @(zam rfl @(k_ac @(k_fz @(k_wN @(k_an @(zak @(zcA rfl rfl @(k_an @(zau @(zau @(zaJ ⟨rfl,_,_,rfl,zaq h (λt_26 h=>k_an @(zau @(zau @(zau @(zaJ ⟨rfl,_,_,_,rfl,zaq h (λt_27 h=>k_wv @(zhG @(zfb h (λh => ?_) (λh => ?_)))) (λx z=>hx x _ z)⟩))))) (λx z=>hx x _ z)⟩)))))))))))))))))))))))))))))
    ·refine za1 @(k_c (hrt _ _ h))
    ·refine k_nx ?_
     exact hn () ((some (.fz d_1)),(some (.lst t_5.2)),(some (.fz t_4.1)),(some (.fz (.lst s_2))),(some (.fz (.lst t_20))),(some (.fz t_21))) h
 ·intro s_3 j_3 h
  try with_reducible show zaC _ _
  show zaC _ [some (.fz script_1),j_3.1,j_3.2.1,j_3.2.2.1,j_3.2.2.2.1,j_3.2.2.2.2.1,j_3.2.2.2.2.2]
  refine za1 @(k_c (hrt _ _ h))
theorem zow {ns:List Int} {k:Int} (hk:0<=k):∃ h,zci (.scr ns) (.int k)=.ok [.int h]:=by
 unfold zci
 simp only [zqw,zab,zf1,zwl]
 have key:∀ c:Int,∃ h,(R.bind (nPow (.int 10) (.int 18)) λt_5=>R.bind (nOrd .ge (.int c) t_5) λt_6 =>
  if t_6=true then R.bind (nPow (.int 10) (.int 18)) λt_7=>R.bind (nSub (.int c) t_7) λt_8=>.ok [t_8]
  else R.bind (nMul (.int c) (.int 48271)) λt_9=>R.bind (nMul (.int 7919) (.int k)) λt_10=>R.bind (nAdd t_9.d t_10.d) λt_11=>R.bind (nAdd t_11.d (.int 11)) λt_12=>R.bind (nMod t_12.d (.int 2147483647)) λt_13 =>
   R.bind (nR1 (.int 20)) λds_1=>R.bind (R.forS zdQ ds_1 (.fz (.int 0),t_13)) λs_2=>.ok [s_2.1.d])=.ok [.int h]:=λc=>by
  have e10:nPow (.int 10) (.int 18)=.ok (.int (10 ^ 18)):=zzc ⟨by decide,by decide,by decide⟩
  simp only [e10,zab,zf1,od_ge,zmL]
  by_cases hc:(10:Int) ^ 18<=c
  ·rw [yaw (yaf hc)]
   exact ⟨_,rfl⟩
  ·rw [yaz (by simpa using hc)]
   simp only [znU (i:=c) (j:=48271) (by decide) (by decide),ztG (i:=7919) (j:=k) (by decide) (by decide),zab,zd9,fz_d,zke (j:=2147483647) (by decide),zk7 (i:=20) (by decide) (by decide)]
   obtain ⟨s,e,t,n,rfl,_⟩:=zcs (body:=zdQ) (ds:=rngD 0 (20:Int).toNat) (s:=(.fz (.int 0),.int ((c*48271+7919*k+11) % 2147483647))) (λ_ s=>∃ t n:Int,s=(.fz (.int t),.int n)/\0<=n/\n<2147483647) 0
    ⟨_,_,rfl,ych _ (by decide),yb7 _ (by decide)⟩ λj d s hd hs=>by
     obtain ⟨t,n,rfl,h0,h1⟩:=hs
     obtain ⟨_,rfl⟩:=zin hd
     refine ⟨(.fz (.int (t*2147483587+(n*n+48271*n+(0+j)) % 2147483629*69621 % 2147483587)),.int ((n*n+48271*n+(0+j)) % 2147483629)),?_,_,_,rfl,ych _ (by decide),Int.lt_trans (yb7 _ (by decide)) (by decide)⟩
     have a0:=ych (n*n+48271*n+(0+j)) (b:=2147483629) (by decide)
     have a1:=yb7 (n*n+48271*n+(0+j)) (b:=2147483629) (by decide)
     unfold zdQ
     simp only [znU (i:=n) (j:=n) (by omega) (by omega),ztG (i:=48271) (j:=n) (by decide) (by decide),zab,zd9,fz_d,zke (j:=2147483629) (by decide),znU (j:=2147483587) (by decide) (by decide),znU (j:=69621) (by decide) (by decide),zke (j:=2147483587) (by decide)]
   rw [e]
   exact ⟨t,rfl⟩
 by_cases hc:k<(ns.length:Int)
 ·obtain ⟨c,_,hx⟩:=zgx hk hc
  rw [yaf hc]
  simp only [if_true,zzf hx,zab]
  exact key c
 ·rw [yaD hc]
  simp only [Bool.false_eq_true,if_false,zab]
  exact key 0
def zxF (ns:List Str):Prop:=ns.Nodup/\∀ s∈ns,zcg s=true/\Sm 0 (.str s)
def l26:Str := "abcdefghijklmnopqrstuvwxyz"
theorem zpw:zbN.length=26:=by decide +kernel
theorem L26_nd:zbN.Nodup:=by decide +kernel
theorem L26_in:∀ c∈zbN,c<0x110000:=λc hc=>by
 have:=yav.mp (show zbN.all (λc=>decide (c<0x110000))=true by decide +kernel) c hc
 rw [yaq] at this
 exact this
theorem L26_ix:∀ c∈zbN,∃ i rest,Builtin.Str.occurrences l26 ⟨#[c]⟩ 0 l26.length 1=i::rest/\i<26/\zbN[i]?=some c:=λc hc=>by
 have:=yav.mp (show zbN.all (λc=>match Builtin.Str.occurrences l26 ⟨#[c]⟩ 0 l26.length 1 with
  | i::_=>decide (i<26)&&decide (zbN[i]?=some c)
  | []=>false)=true by decide +kernel) c hc
 split at this
 ·rename_i i rest e
  rw [yas,yaq,yaq] at this
  exact ⟨i,rest,e,this.1,this.2⟩
 ·cases this
theorem zqP {s:Str} {l:List Nat} (e:s.cps.toList=l) (h1:1<=l.length) (h8:l.length<=8) (hl:∀ c∈l,c∈zbN):zcg s=true/\Sm 0 (.str s):=by
 have hn:s.length=l.length:=by rw [← e,ya3]; rfl
 refine ⟨?_,⟨by rw [hn]; omega,?_⟩⟩
 ·unfold zcg
  rw [e,hn,yaf h1,yaf h8,ybQ,ybQ,yav]
  exact λc hc=>yaf (hl c hc)
 ·show s.cps.all (· < 0x110000)=true
  rw [← Array.all_toList,e,yav]
  exact λc hc=>yaf (L26_in c (hl c hc))
theorem zox {i:Int} (h0:0<=i) (h1:i<26):∃ c,c∈zbN/\zbN[i.toNat]?=some c/\nIx (.str "abcdefghijklmnopqrstuvwxyz") (.int i)=.ok (sgn c):=by
 obtain ⟨c,hc,ec⟩:=zgx (xs:=l26.cps.toList) h0 (by rw [show l26.cps.toList.length=26 from zpw]; exact h1)
 exact ⟨c,yaL hc,hc,zmO (s := "abcdefghijklmnopqrstuvwxyz") ec (by decide)⟩
def zuy (f:Nat) (j i:Nat) (s:Str):Prop:=(zcg s=true/\Sm 0 (.str s))/\s.cps.toList[j]?=zbN[(f+3*i) % 26]?
theorem zwD {f j:Nat} {S:List Str} (l:S.length<=8) (h:∀ i s,S[i]?=some s->zuy f j i s):zxF S:=by
 refine ⟨?_,λs hs => ?_⟩
 ·rw [ycl,yct]
  intro i k hi hk lt e
  have w1:=(h i _ (yak hi)).2
  have w2:=(h k _ (yak hk)).2
  rw [e,w2] at w1
  have l1:(f+3*i) % 26<zbN.length:=by rw [zpw]; omega
  have l2:(f+3*k) % 26<zbN.length:=by rw [zpw]; omega
  rw [yak l1,yak l2] at w1
  have:=zqB L26_nd l2 l1 (yaT w1)
  omega
 ·obtain ⟨i,hi⟩:=ybo.mp hs
  exact (h i s hi).1
theorem zzD {f:Nat} {j:Nat} {base:Str} {y:List D} (hf:f<26) (hj:j<base.cps.toList.length) (h7:base.cps.toList.length<=7) (hb:∀ c∈base.cps.toList,c∈zbN) (k:Nat) (hk:k<8) (h:Int) (S:List Str) (lS:S.length=k) :
 ∃ h' s,zej (.int (f:Nat)) (.int (j:Nat),y) (.fz (.str base)) (.int (k:Nat)) ([.int h],S.map D.str)=.ok ([.int h'],(S++[s]).map D.str)/\zuy f j k s:=by
 have bl:base.length=base.cps.toList.length:=slen base
 have wz:base.length<=sizeLine:=ze9 (by omega)
 obtain ⟨o,hoL,ho,eo⟩:=zox (i:=((f:Int)+3*(k:Int)) % 26) (by omega) (by omega)
 obtain ⟨x,h1,e1,x0,x1⟩:=zch h (m:=4) (by decide) (by decide)
 obtain ⟨b1,hb1⟩:∃ b,b=cutS base none (some (j:Int)):=⟨_,rfl⟩
 have b1c:b1.cps.toList=base.cps.toList.take j:=by rw [hb1,znX (by omega)]; rfl
 obtain ⟨b2,hb2⟩:∃ b,b=cutS base (some ((j:Int)+1)) none:=⟨_,rfl⟩
 have b2c:b2.cps.toList=base.cps.toList.drop (j+1):=by rw [hb2,zwo (by omega)]; rfl
 obtain ⟨ee,hee,eec⟩:∃ z:Str,(z=if (if x=0 then (1:Int) else 0)=1 then ("e" : Str) else "")/\(z.cps.toList=[]\/z.cps.toList=[101]):=by
  refine ⟨_,rfl,?_⟩
  by_cases c:x=0
  ·rw [yaw c,yaw rfl]
   exact .inr (by decide +kernel)
  ·rw [yaz c,yaz (by decide)]
   exact .inl (by decide +kernel)
 have eel:ee.length<=1:=by
  rw [slen]
  rcases eec with z | z<;>rw [z]<;>decide
 have b1l:b1.length=j:=by rw [slen,b1c,ybn]; omega
 have b2l:b2.length=base.cps.toList.length-(j+1):=by rw [slen,b2c,ycf]
 have s1:nSl (.str base) (some ((j:Int)+1)) none=.ok (.fz (.str b2)):=by rw [zmN wz,hb2]
 have s2:nSl (.str base) none (some (j:Int))=.ok (.fz (.str b1)):=by rw [zmN wz,hb1]
 have a1:nAdd (.str b2) (.str ee)=.ok (.fz (.str (b2++ee))):=zpg (ze9 (by omega))
 have a2:nAdd (.str b1) (sgn o)=.ok (.fz (.str (b1++⟨#[o]⟩))):=zpg (by show b1.length+1<=_; exact ze9 (by omega))
 have l6:(b1++(⟨#[o]⟩:Str)).length=b1.length+1:=by rw [slen,zdC,yam,← slen]; rfl
 have l7:(b2++ee).length=b2.length+ee.length:=by rw [slen,zdC,yam,← slen,← slen]
 have a3:nAdd (.str (b1++⟨#[o]⟩)) (.str (b2++ee))=.ok (.fz (.str (b1++⟨#[o]⟩++(b2++ee)))):=zpg (by rw [l6,l7]; exact ze9 (by omega))
 have mu:zkd (.str "e") (.int (if x=0 then (1:Int) else 0))=.ok (.str ee):=by
  rw [hee]
  unfold zkd
  refine zaz ?_
  by_cases c:x=0
  ·rw [yaw c]
   decide +kernel
  ·rw [yaz c]
   decide +kernel
 refine ⟨h1,b1++⟨#[o]⟩++(b2++ee),?_,?_,?_⟩
 ·unfold zej
  have i1:zk6 (.bl (decide (x=0)))=.ok (.int (if x=0 then (1:Int) else 0)):=by
   unfold zk6
   by_cases c:x=0
   ·rw [yaf c,yaw c]
    rfl
   ·rw [yaD c,yaz c]
    rfl
  have ee1:nMul (.int 3) (.int (k:Nat))=.ok (.fz (.int (3*(k:Int)))):=ztG (by decide) (by decide)
  simp only [ee1,zab,fz_d,zd9,zke (j:=26) (by decide),eo,zlC,s1,e1,znW,i1,mu,a1,s2,a2,a3]
  rw [nApp_of (by rw [yac]; omega),zab,yaR]
  rfl
 ·refine zqP (l:=base.cps.toList.take j++[o]++(base.cps.toList.drop (j+1)++ee.cps.toList)) (by rw [zdC,zdC,zdC,b1c,b2c]) (by simp only [yam,yaB]; omega) ?_ λc hc => ?_
  ·have:ee.cps.toList.length<=1:=by rw [← slen]; exact eel
   simp only [yam,yaB,yba,ybn,ycf]
   omega
  ·rcases yay.mp hc with hc | hc
   ·rcases yay.mp hc with hc | hc
    ·exact hb c (ybJ hc)
    ·rw [yah.mp hc]
     exact hoL
   ·rcases yay.mp hc with hc | hc
    ·exact hb c (List.mem_of_mem_drop hc)
    ·rcases eec with z | z
     ·rw [z] at hc
      exact absurd hc ybb
     ·rw [z] at hc
      rw [yah.mp hc]
      decide +kernel
 ·rw [zdC,zdC,b1c]
  show (List.take j base.cps.toList++[o]++_)[j]?=_
  rw [yae,ybF (by rw [ybn]; omega),ybn,show j-min j base.cps.toList.length=0 by omega]
  show some o=_
  rw [← ho]
  congr 1
theorem zqQ (h:Int) {n:Int} (n0:0<=n) (n8:n<=8):∃ ns h',zeq [.int h] (.int n)=.ok (ns.map D.str,[.int h'])/\ns.length=n.toNat/\zxF ns:=by
 unfold zeq
 simp only [zk7 (i:=8) (by decide) (by decide),zab]
 obtain ⟨xs,s,e2,xl,hx,h2,rfl⟩:=ztM (f:=λ(d_2:D) (s:List D)=>R.bind (zaw s (.int 26)) λt_3=>R.bind (nIx (.str "abcdefghijklmnopqrstuvwxyz") t_3.1) λt_4=>.ok ((t_4,t_3.2)))
  (λs=>∃ h:Int,s=[.int h]) (λx=>∃ c,x=sgn c/\c∈zbN) (ds:=rngD 0 (8:Int).toNat) (s:=[.int h]) (by rw [zdN]; exact ze9 (by decide)) ⟨h,rfl⟩ λd _ s hs=>by
   obtain ⟨g,rfl⟩:=hs
   obtain ⟨i,g',e,i0,i1⟩:=zch g (m:=26) (by decide) (by decide)
   obtain ⟨c,hc,_,ec⟩:=zox i0 i1
   refine ⟨sgn c,[.int g'],?_,⟨c,rfl,hc⟩,g',rfl⟩
   simp only [e,zab,ec]
 obtain ⟨cs,rfl,hcs⟩:=zzo hx
 rw [zdN,yac] at xl
 have xl:cs.length=8:=xl
 obtain ⟨w,e3,wl⟩:=zrU (cs:=cs) (by omega)
 have wn:w.length=cs.length:=by rw [slen,wl]
 have wz:w.length<=sizeLine:=ze9 (by omega)
 obtain ⟨a,h3,e4,a0,a1⟩:=zch h2 (m:=4) (by decide) (by decide)
 simp only [e2,zab,e3,e4,znW]
 by_cases ha:a=0
 ·rw [yaw (yaf ha),zk7 n0 (by omega),zab]
  have em:lcM (λd_3:D=>R.bind (nAdd d_3 (.int 1)) λt_8=>R.bind (nInt t_8.d) λi_1=>R.bind (nSl (.str w) none (some i_1)) λt_9=>.ok t_9.d) (rngD 0 n.toNat) =
   .ok ((rngD 0 n.toNat).map λd=>match d with
    | .int k=>.str (cutS w none (some (k+1)))
    | _=>.non):=by
   refine zmP (by rw [zdN]; exact ze9 (by omega)) λd hd => ?_
   obtain ⟨k,hk,rfl⟩:=zqx hd
   simp only [zd9,zab,fz_d,zlC,zmN wz]
  refine ⟨(List.range n.toNat).map λk:Nat=>cutS w none (some ((k:Int)+1)),h3,?_,by rw [yac,yau],?_,λs hs => ?_⟩
  ·rw [em,zab,ztL,yaY,yaY]
   rfl
  ·rw [ycl]
   refine yca.mpr ?_
   refine List.Pairwise.imp_of_mem ?_ (List.pairwise_lt_range (n:=n.toNat))
   intro i j hi hj lt e
   have hi:=yaA.mp hi
   have hj:=yaA.mp hj
   have e':(cutS w none (some ((i:Int)+1))).cps.toList.length=(cutS w none (some ((j:Int)+1))).cps.toList.length:=by rw [e]
   rw [znX (by omega),znX (by omega),wl,ybn,ybn] at e'
   omega
  ·obtain ⟨k,hk,rfl⟩:=yan.mp hs
   have hk:=yaA.mp hk
   refine zqP (l:=cs.take (k+1)) (by rw [znX (by omega),wl]; rfl) (by rw [ybn]; omega) (by rw [ybn]; omega) λc hc=>hcs c (ybJ hc)
 ·rw [yaz (by rw [yaD ha]; exact yax)]
  obtain ⟨m,h4,e5,m0,m1⟩:=zch h3 (m:=7) (by decide) (by decide)
  obtain ⟨base,hbase⟩:∃ b,b=cutS w none (some (1+m)):=⟨_,rfl⟩
  have bc:base.cps.toList=cs.take (1+m).toNat:=by rw [hbase,znX (by omega),wl]
  have bl:base.cps.toList.length=(1+m).toNat:=by rw [bc,ybn]; omega
  have bl2:base.length=(1+m).toNat:=by rw [slen,bl]
  have bz:base.length<=sizeLine:=ze9 (by omega)
  have s1:nSl (.str w) none (some (1+m))=.ok (.fz (.str base)):=by rw [zmN wz,hbase]
  obtain ⟨j,h5,e6,j0,j1⟩:=zch h4 (m:=(base.length:Int)) (by omega) (by omega)
  obtain ⟨c,hc,ec⟩:=zgx (xs:=base.cps.toList) j0 (by rw [← slen]; exact j1)
  have hcL:c∈zbN:=hcs c (by
   have:=yaL hc
   rw [bc] at this
   exact ybJ this)
  obtain ⟨ix,rest,eo,ix1,ixc⟩:=L26_ix c hcL
  have eo':nSIx (.str "abcdefghijklmnopqrstuvwxyz") (sgn c)=.ok (.int ix):=zzp eo
  obtain ⟨jn,rfl⟩:∃ jn:Nat,j=jn:=⟨j.toNat,by omega⟩
  simp only [e5,zab,zd9,fz_d,zlC,s1,zwh bz,e6,zmO ec bz,eo',zk7 n0 (show n<1000000000 by omega)]
  obtain ⟨s,e8,h7,S,rfl,lS,gS⟩:=zcs (body:=zej (.int (ix:Nat)) (.int (jn:Nat),[.int h5]) (.fz (.str base))) (ds:=rngD 0 n.toNat) (s:=([.int h5],[])) (λk s=>∃ (h:Int) (S:List Str),s=([.int h],S.map D.str)/\S.length=k/\∀ i s,S[i]?=some s->zuy ix jn i s) 0 ⟨h5,[],rfl,rfl,λi s z=>by simp at z⟩ λk d s hd hs=>by
   obtain ⟨h,S,rfl,lS,gS⟩:=hs
   obtain ⟨hk,rfl⟩:=zin hd
   rw [ya4] at lS ⊢
   rw [ybO]
   obtain ⟨h',s,e,ws⟩:=zzD (base:=base) (j:=jn) (y:=[.int h5]) ix1 (by omega) (by omega) (λc hc=>hcs c (by
    rw [bc] at hc
    exact ybJ hc)) k (by omega) h S lS
   refine ⟨_,e,h',S++[s],rfl,by rw [yam,lS]; rfl,λi s' hi => ?_⟩
   by_cases c:i<S.length
   ·rw [ybl c] at hi
    exact gS i s' hi
   ·rw [ybF (by omega)] at hi
    have:i-S.length=0:=by
     have:=(yal.mp hi).1
     simp at this
     omega
    rw [this] at hi
    cases hi
    rw [show i=k by omega]
    exact ws
  rw [zdN,ya4] at lS
  rw [e8,zab]
  exact ⟨S,h7,rfl,lS,zwD (by omega) gS⟩
theorem zlT {α:Type} {p:α->PyData} (hc:∀ a,(p a).canLay0=true):∀ l:List α,PyData.canLayAll0 (l.map p)=true
 | []=>rfl
 | a::l=>by
   rw [yaH]
   unfold PyData.canLayAll0
   rw [hc a,zlT hc l]
   rfl
theorem zi9 {α:Type} {p:α->PyData} {n:Nat} (hd:∀ a,(p a).depth<=n):∀ l:List α,PyData.depthAll (l.map p)<=n
 | []=>ybd _
 | a::l=>by
   rw [yaH]
   unfold PyData.depthAll
   have:=zi9 hd l
   have:=hd a
   omega
theorem zuz {α:Type} {enc:α->D} {p:α->PyData} (h:∀ a,(enc a).py=some (p a)) (hc:∀ a,(p a).canLay0=true) (hd:∀ a,(p a).depth<=50) (l:List α):canD (.lst (l.map enc))=true:=by
 have e:(D.lst (l.map enc)).py=some (.list (l.map p)):=by
  show (D.pys (l.map enc)).map PyData.list=_
  rw [zmS h]
  rfl
 unfold canD
 rw [e]
 have h2:=zi9 hd l
 show (PyData.canLayAll0 (l.map p)&&decide (PyData.depthAll (l.map p)+1<=64))=true
 rw [zlT hc l,ybQ]
 exact yaf (by omega)
def zfT:D->D
 | .tup [a,.str s]=>.tup [a,.str (zjl s)]
 | d=>d
theorem zgl {d:D} (h:zcC d):zcJ d=.ok (zfT d):=by
 obtain ⟨n,s,rfl,_⟩:=h
 unfold zcJ
 show _=R.ok (D.tup [.str n,.str (zjl s)])
 unfold zjl
 simp only [zgU,zgT,zab,zwk]
 by_cases h:s = "+" <;> simp [h]
theorem zpx {d:D} (h:zcC d):zcC (zfT d)/\zfT (zfT d)=d:=by
 obtain ⟨n,s,rfl,hn,hs⟩:=h
 obtain ⟨h1,h2,h3⟩:=zn3 hs
 refine ⟨⟨n,zjl s,rfl,hn,h3⟩,?_⟩
 show D.tup [.str n,.str (zjl (zjl s))]=_
 rw [h2]
theorem zkS {d:D} (h:zcC d):nob d=true:=by
 obtain ⟨n,s,rfl,_⟩:=h
 rfl
theorem zgG {d:D} (h:zcC d):Sm 1 d:=zzl (zrT h)
theorem zzE (neg:Bool) {a b:D} (ha:zcC a) (hb:zcC b):nEq neg a b=.ok (if neg=true then !eqD a b else eqD a b):=ztI ((zgG ha).eqOk (zgG hb) (by decide) (by decide))
structure Ends (L:List (End×D)):Prop where
 nd:(L.map (·.1)).Nodup
 good:∀ x∈L,zcC x.2
 few:L.length<=10000
def atL (L:List (End×D)) (e:End):D:=(getK (zed L) (eK e)).getD .non
section
variable {L:List (End×D)} {rows:List D}
theorem atL_of (E:Ends L) {e:End} {d:D} (h:(e,d)∈L):atL L e=d:=by
 unfold atL
 rw [zqG E.nd h]
 rfl
theorem zxG (E:Ends L) {e:End} (h:e∈L.map (·.1)):(e,atL L e)∈L/\zcC (atL L e):=by
 obtain ⟨x,hx,rfl⟩:=yan.mp h
 have:atL L x.1=x.2:=atL_of E (d:=x.2) hx
 rw [this]
 exact ⟨hx,E.good x hx⟩
def zxH (L:List (End×D)) (w:Wire):Bool:=eqD (atL L w.1) (zfT (atL L w.2))
def metT (M:List End):List (List Key×D):=zed (M.map λe=>(e,.bl true))
theorem zqR (M:List End):(M.map λe=>(e,D.bl true)).map (·.1)=M:=by
 rw [yaY]
 exact List.map_id _
theorem zuA {M:List End} {e:End} (h:e∉M) (hl:M.length<16777216):nStT (metT M) (eD e) (.bl true)=.ok (metT (M++[e])):=by
 unfold metT
 rw [nStT_e (by rw [zqR]; exact h) (by rw [yac]; exact hl),yaR]
 rfl
theorem zzF (neg:Bool) (M:List End) (e:End):nIn neg (eD e) (.dT (metT M))=.ok (xorB neg (decide (e∈M))):=by
 unfold metT
 rw [zzs,zqR]
end
def PT (T:List Str) (p:D):Prop:=∃ t∈T,∃ s:Str,(s = "+" \/ s = "-")/\p=.tup [.str t,.str s]
def BR (T:List Str) (z:D):Prop:=∃ ps,z=.tup ps/\1<=ps.length/\ps.length<=4/\∀ p∈ps,PT T p
def basR (t:Str):List D:=[.tup [.tup [.str t,.str "+"]],.tup [.tup [.str t,.str "-"]]]
theorem zqS:∀ (T:List Str) (acc:List D),acc.length+2*T.length<=1000->R.forS zek (T.map D.str) acc=.ok (acc++T.flatMap basR)
 | [],acc,_=>by
   show R.ok acc=R.ok (acc++[])
   rw [yaQ]
 | t::T,acc,hl=>by
   rw [yaB] at hl
   rw [yaH,zhM]
   have e:zek (.str t) acc=.ok (acc++basR t):=by
    unfold zek
    rw [zmM (by show acc.length+2<=_; omega),zab]
    rfl
   rw [e,zab,zqS T (acc++basR t) (by rw [yam]; show acc.length+2+2*T.length<=1000; omega),ycy,yae]
theorem zzG (T:List Str):(T.flatMap basR).length=2*T.length:=by
 induction T with
 | nil=>rfl
 | cons t T ih =>
   rw [ycy,yam,ih,yaB]
   show 2+_=_
   omega
theorem zwE {T:List Str} (h:Int) {x:List D} (T1:1<=T.length) (T3:T.length<=4) (n:Nat) (hn:n<=4):∃ h' ps,R.forS (zel (T.map D.str,x)) (rngD 0 n) ([.int h],[])=.ok ([.int h'],ps)/\ps.length=n/\∀ p∈ps,PT T p:=by
 obtain ⟨s,e,h',ps,rfl,hl,hp⟩:=zcs (body:=zel (T.map D.str,x)) (ds:=rngD 0 n) (s:=([.int h],[])) (λk s=>∃ (h:Int) (ps:List D),s=([.int h],ps)/\ps.length=k/\∀ p∈ps,PT T p) 0 ⟨h,[],rfl,rfl,λ_ z=>absurd z ybb⟩ λj d s hd hs=>by
  obtain ⟨h,ps,rfl,hl,hp⟩:=hs
  obtain ⟨hj,rfl⟩:=zin hd
  obtain ⟨a,h1,e1,a0,a1⟩:=zch h (m:=(T.length:Int)) (by omega) (by omega)
  obtain ⟨t,ht,e2⟩:=zwv (ns:=T) a0 a1
  obtain ⟨b,h2,e3,b0,b1⟩:=zch h1 (m:=2) (by decide) (by decide)
  obtain ⟨sd,hsd,e4⟩:=zzq b0 b1
  refine ⟨([.int h2],ps++[.tup [.str t,.str sd]]),?_,h2,_,rfl,by rw [yam,hl]; rfl,λp hm => ?_⟩
  ·unfold zel
   simp only [zbw,yac,zab,e1,e2,e3,e4,nApp_of (show ps.length<16777216 by omega)]
  ·rcases yay.mp hm with hm | hm
   ·exact hp p hm
   ·exact ⟨t,ht,sd,hsd,yah.mp hm⟩
 rw [zdN,ya4] at hl
 exact ⟨h',ps,e,hl,hp⟩
theorem row_b2 {T:List Str} {x:List D} (T1:1<=T.length) (T3:T.length<=4) (k:Nat) (h:Int) (Rw:List D) (lR:Rw.length<=100) :
 ∃ h' z,zem (T.map D.str,x) (.int (k:Nat)) ([.int h],Rw)=.ok ([.int h'],Rw++[z])/\BR T z:=by
 obtain ⟨i,hi,i0,i1⟩:∃ i:Int,zk6 (.bl (decide ((k:Int)=0)))=.ok (.int i)/\0<=i/\i<=1:=by
  by_cases c:(k:Int)=0
  ·rw [yaf c]
   exact ⟨1,rfl,by decide,by decide⟩
  ·rw [yaD c]
   exact ⟨0,rfl,by decide,by decide⟩
 obtain ⟨a,h1,e1,a0,a1⟩:=zch h (m:=3-i) (by omega) (by omega)
 obtain ⟨h2,ps,e2,pl,gp⟩:=zwE h1 (x:=x) T1 T3 (1+i+a).toNat (by omega)
 refine ⟨h2,.tup ps,?_,ps,rfl,by omega,by omega,gp⟩
 unfold zem
 simp only [znW,zab,hi,zd9,fz_d,zmL,e1,zk7 (i:=1+i+a) (by omega) (by omega),e2,zcZ,nApp_of (show Rw.length<16777216 by omega)]
def OneP (rows:List D) (p:D):Prop:=∃ s,D.tup [.str s,.tup [p]]∈rows
def OPt (rows:List D) (p:D):Prop:=zcC p/\OneP rows p/\OneP rows (zfT p)
theorem OPt.mate {rows:List D} {p:D} (h:OPt rows p):OPt rows (zfT p):=⟨(zpx h.1).1,h.2.2,by rw [(zpx h.1).2]; exact h.2.1⟩
theorem PT.mate {T:List Str} {p:D} (h:PT T p):PT T (zfT p):=by
 obtain ⟨t,ht,s,hs,rfl⟩:=h
 exact ⟨t,ht,zjl s,(zn3 hs).2.2,rfl⟩
structure Full (rows:List D):Prop where
 st:Stok rows
 op:∀ r∈rows,∀ p∈zmT (zfO r),OPt rows p
theorem zuB (h:Int):∃ rows h',zfo [.int h]=.ok (.tup rows,[.int h'])/\Full rows:=by
 unfold zfo
 obtain ⟨a,h1,e1,a0,a1⟩:=zch h (m:=2) (by decide) (by decide)
 obtain ⟨T,h2,e2,lT,nT⟩:=zqQ h1 (n:=1+a) (by omega) (by omega)
 have bl:=zzG T
 obtain ⟨b,h3,e4,b0,b1⟩:=zch h2 (m:=8-((T.flatMap basR).length:Nat)) (by omega) (by omega)
 have e3:=zqS T [] (by rw [yba]; omega)
 rw [ybV] at e3
 obtain ⟨s,e5,h4,Rw,rfl,lR,sub,gR⟩:=zcs (body:=zem (T.map D.str,[.int h2])) (ds:=rngD 0 (1+b).toNat) (s:=([.int h3],T.flatMap basR)) (λk s=>∃ (h:Int) (Rw:List D),s=([.int h],Rw)/\Rw.length=(T.flatMap basR).length+k/\(∀ z∈T.flatMap basR,z∈Rw)/\∀ z∈Rw,BR T z) 0
  ⟨h3,_,rfl,rfl,λ_ z=>z,λz hz=>by
   obtain ⟨t,ht,hz⟩:=ybf.mp hz
   rcases yap.mp hz with rfl | hz
   ·exact ⟨_,rfl,yaj _,by show 1<=4; decide,λp hp=>⟨t,ht, "+",.inl rfl,yah.mp hp⟩⟩
   ·rw [yah.mp hz]
    exact ⟨_,rfl,yaj _,by show 1<=4; decide,λp hp=>⟨t,ht, "-",.inr rfl,yah.mp hp⟩⟩⟩ λj d s hd hs=>by
  obtain ⟨h,Rw,rfl,lR,sub,gR⟩:=hs
  obtain ⟨hj,rfl⟩:=zin hd
  rw [ya4] at lR ⊢
  rw [ybO]
  obtain ⟨h',z,e,gz⟩:=row_b2 (T:=T) (x:=[.int h2]) (by omega) (by omega) j h Rw (by omega)
  refine ⟨_,e,h',_,rfl,by rw [yam,lR]; show _+1=_; omega,λy hy=>yai _ (sub y hy),λy hy => ?_⟩
  rcases yay.mp hy with hy | hy
  ·exact gR y hy
  ·rw [yah.mp hy]
   exact gz
 rw [zdN,ya4] at lR
 obtain ⟨S,h5,e6,lS,nS⟩:=zqQ h4 (n:=(Rw.length:Nat)) (by omega) (by omega)
 rw [ybW] at lS
 obtain ⟨Z,hZ⟩:∃ Z,Z=zipD (S.map D.str) Rw:=⟨_,rfl⟩
 have lZ:Z.length=Rw.length:=by
  rw [hZ]
  unfold zipD
  rw [yac,ybM,yac,lS,ycn]
 have atZ:∀ r∈Z,∃ s∈S,∃ ps,r=.tup [.str s,.tup ps]/\D.tup ps∈Rw:=λr hr=>by
  rw [hZ] at hr
  unfold zipD at hr
  obtain ⟨⟨x,y⟩,hq,rfl⟩:=yan.mp hr
  obtain ⟨hx,hy⟩:=ycM hq
  obtain ⟨s,hs,rfl⟩:=yan.mp hx
  obtain ⟨ps,rfl,_⟩:=gR y hy
  exact ⟨s,hs,ps,rfl,hy⟩
 have inZ:∀ z∈Rw,∃ s,D.tup [.str s,z]∈Z:=λz hz=>by
  obtain ⟨k,hk⟩:=ybo.mp hz
  have hk':k<Rw.length:=(yal.mp hk).1
  have hkS:k<S.length:=by omega
  obtain ⟨n,hn⟩:∃ n,S[k]?=some n:=⟨_,yak hkS⟩
  refine ⟨n,?_⟩
  rw [hZ]
  unfold zipD
  refine yan.mpr ⟨(.str n,z),?_,rfl⟩
  refine ybo.mpr ⟨k,?_⟩
  rw [ybt]
  exact ⟨by rw [yaI,hn]; rfl,hk⟩
 have portG:∀ {p},PT T p->zcC p:=λ{p} hp=>by
  obtain ⟨t,ht,s,hs,rfl⟩:=hp
  exact ⟨t,s,rfl,(nT.2 t ht).1,hs⟩
 have gZ:∀ r∈Z,GRow r:=λr hr=>by
  obtain ⟨s,hs,ps,rfl,hp⟩:=atZ r hr
  obtain ⟨ps',e,l1,l4,g⟩:=gR _ hp
  cases e
  exact ⟨s,ps,rfl,(nS.2 s hs).1,l1,l4,λp hp=>portG (g p hp)⟩
 have nmZ:Z.map zav=S:=by
  rw [hZ]
  unfold zipD
  rw [yaY]
  have:∀ (S:List Str) (R:List D),S.length=R.length->List.map (zav∘λq:D×D=>D.tup [q.1,q.2]) ((S.map D.str).zip R)=S:=λS=>by
   induction S with
   | nil=>exact λR _=>rfl
   | cons s S ih =>
     intro R hl
     cases R with
     | nil=>cases hl
     | cons r R=>exact ya8 (s :: ·) (ih R (by simpa using hl))
  exact this S Rw lS
 obtain ⟨ps,ep,hps⟩:=ztT gZ
 have pm:=ybY Z leD
 have sl:(zfh Z).length=Z.length:=pm.length_eq
 have mem:∀ r,r∈zfh Z↔r∈Z:=λr=>pm.mem_iff
 have one:∀ {p},PT T p->OneP (zfh Z) p:=λ{p} hp=>by
  obtain ⟨t,ht,s,hs,rfl⟩:=hp
  have:D.tup [.tup [.str t,.str s]]∈Rw:=sub _ (ybf.mpr ⟨t,ht,by
   rcases hs with rfl | rfl
   ·exact yaa
   ·exact yab _ yaa⟩)
  obtain ⟨n,hn⟩:=inZ _ this
  exact ⟨n,(mem _).mpr hn⟩
 refine ⟨zfh Z,h5,?_,⟨⟨zrS gZ (by rw [nmZ]; exact nS.1),λr hr=>gZ r ((mem r).mp hr),by rw [sl,lZ]; omega⟩,λr hr p hp => ?_⟩⟩
 ·have ez:nLz (.lst (S.map D.str)) (.lst Rw)=.ok Z:=by rw [hZ]; rfl
  have es:zdM (.lst Z)=.ok (zfh Z):=by
   show zeG Z=_
   unfold zeG
   rw [ep]
   show need _ _=_
   rw [zaz (zzk hps)]
  simp only [e1,zab,zd9,fz_d,e2,zfl,e3,zbw,zmL,e4,zk7 (i:=1+b) (by omega) (by omega),e5,e6,ez,es,zcZ]
 ·obtain ⟨s,hs,ps,rfl,hz⟩:=atZ r ((mem r).mp hr)
  obtain ⟨ps',e,_,_,g⟩:=gR _ hz
  cases e
  have hpt:=g p hp
  exact ⟨portG hpt,one hpt,one hpt.mate⟩
theorem zkT {α:Type} [DecidableEq α]:∀ (l k:List α),l.Nodup->(∀ x∈l,x∈k)->k.length<=l.length->l.Perm k
 | [],k,_,_,h=>by
   cases k with
   | nil=>exact .refl _
   | cons _ _=>exact absurd h (by simp)
 | x::l,k,nd,s,h=>by
   obtain ⟨n1,n2⟩:=ya9.mp nd
   have hx:=s x yaa
   have e:=List.length_erase_of_mem hx
   rw [yaB] at h
   refine ((zkT l (k.erase x) n2 (λy hy => ?_) (by omega)).cons x).trans (List.perm_cons_erase hx).symm
   exact (List.mem_erase_of_ne (λz:y=x=>n1 (by rw [← z]; exact hy))).mpr (s y (yab _ hy))
section
variable {L:List (End×D)}
def lawW (L:List (End×D)) (w:Wire):Bool:=decide (w.1∈L.map (·.1))&&decide (w.2∈L.map (·.1))&&zxH L w
def flat (ws:List Wire):List End:=ws.flatMap λw=>[w.1,w.2]
theorem law_b1 (E:Ends L) (w:Wire) (M:List End) (hM:M.length<9000) (K:List D->R Bool):zdh (zed L) (wD w) (M.map eD) K=if lawW L w=true then K ((M++[w.1,w.2]).map eD) else .ok false:=by
 unfold zdh
 have ew:nUn2 (wD w)=.ok (eD w.1,eD w.2):=rfl
 have ex:nExt (M.map eD) (.lst [eD w.1,eD w.2])=.ok ((M++[w.1,w.2]).map eD):=by
  rw [zmM (by rw [yac,yaB,yaB,yba]; omega),yaR]
  rfl
 rw [ew,zab]
 dsimp only
 rw [ex,zab,zzs,zab,zzs]
 simp only [zab,xorB]
 by_cases h2:w.1∈L.map (·.1)
 case neg =>
  have:lawW L w=false:=by
   unfold lawW
   rw [yaD h2]
   rfl
  rw [this,yaD h2]
  rfl
 by_cases h3:w.2∈L.map (·.1)
 case neg =>
  have:lawW L w=false:=by
   unfold lawW
   rw [yaD h3]
   simp
  rw [this,yaD h3,yaf h2]
  rfl
 obtain ⟨m1,g1⟩:=zxG E h2
 obtain ⟨m2,g2⟩:=zxG E h3
 rw [yaf h2,yaf h3,nIx_e E.nd m1,zab,nIx_e E.nd m2,zab,zgl g2,zab,zzE true g1 (zpx g2).1]
 unfold lawW zxH
 rw [yaf h2,yaf h3]
 cases eqD (atL L w.1) (zfT (atL L w.2))<;>rfl
theorem zzH (E:Ends L) {after:List D->R Bool}:∀ (ws:List Wire) (M:List End),M.length+2*ws.length<=8000 ->
 R.forN (zdh (zed L)) after (ws.map wD) (M.map eD)=if ws.all (lawW L)=true then after ((M++flat ws).map eD) else .ok false
 | [],M,_=>by
   show after _=after _
   unfold flat
   rw [List.flatMap_nil,yaQ]
 | w::ws,M,hl=>by
   rw [yaB] at hl
   rw [yaH,zn1,law_b1 E w M (by omega),ycD]
   cases h:lawW L w with
   | false=>rfl
   | true =>
     rw [yaw rfl,zzH E ws _ (by rw [yam,yaB,yaB,yba]; omega),ybQ]
     unfold flat
     rw [ycy,yae]
theorem zh0 {ws:List Wire} {e:End}:e∈flat ws↔∃ w∈ws,e=w.1\/e=w.2:=by
 unfold flat
 rw [ybf]
 constructor
 ·rintro ⟨w,hw,h⟩
  refine ⟨w,hw,?_⟩
  rcases yap.mp h with h | h
  ·exact .inl h
  ·exact .inr (yah.mp h)
 ·rintro ⟨w,hw,h⟩
  refine ⟨w,hw,?_⟩
  rcases h with rfl | rfl<;>simp
end
theorem zuC:100000<most:=by
 unfold most
 decide
theorem ziG {σ β:Type} {body:σ->(σ->R β)->(σ->R β)->R β} {after:σ->R β} (I:σ->Prop) (μ:σ->Nat) (Done:σ->Prop)
 (step:∀ s,I s->(Done s/\∀ K A,body s K A=A s)\/∃ s',I s'/\μ s'<μ s/\∀ K A,body s K A=K s'):∀ (N:Nat) (s:σ),I s->μ s<N->∃ s',I s'/\Done s'/\R.whileN body after N s=after s'
 | 0,s,_,h=>absurd h (ya0 _)
 | N+1,s,hi,h=>by
   unfold R.whileN
   rcases step s hi with ⟨d,e⟩ | ⟨s',i',l,e⟩
   ·exact ⟨s,hi,d,e _ _⟩
   ·obtain ⟨s2,i2,d2,e2⟩:=ziG I μ Done step N s' i' (by omega)
    exact ⟨s2,i2,d2,by rw [e,e2]⟩
theorem zdJ {xs:List D} (c:canD (.lst xs)=true):nEq true (.lst xs) (.lst ([]:List D))=.ok (!xs.isEmpty):=by
 rw [nN_of (zml c (by decide +kernel))]
 congr 2
 unfold canD at c
 unfold eqD
 have e:(D.lst xs).py=(D.pys xs).map PyData.list:=rfl
 rw [e] at c ⊢
 cases h:D.pys xs with
 | none =>
   rw [h] at c
   cases c
 | some ps =>
   cases xs with
   | nil=>cases h; rfl
   | cons x xs =>
     cases ps with
     | nil =>
       unfold D.pys at h
       split at h<;>simp at h
     | cons p ps=>rfl
theorem zuD {ds:List D} {i:Int} (h0:0<=i) (h1:i<ds.length) (hl:ds.length<=100000):∃ d,ds[i.toNat]?=some d/\nPop ds (.int i)=.ok (d,ds.eraseIdx i.toNat):=by
 have hj:i.toNat<ds.length:=by omega
 refine ⟨ds[i.toNat],yak hj,?_⟩
 unfold nPop
 have e1:seqIndex? i ds.length=some i.toNat:=by
  have n0:¬ i<0:=by omega
  simp [seqIndex?,n0,h0,h1]
 show need (decide (-(2 ^ 63)<=i)&&decide (i<2 ^ 63)) ((ofO (seqIndex? i ds.length)).bind _)=_
 rw [zaz (by rw [yaf (by omega),yaf (by omega)]; rfl),e1]
 show (ofO ds[i.toNat]?).bind _=_
 rw [yak hj]
 rfl
theorem ziH {α:Type}:∀ {l:List α} {k:Nat} {x:α},l[k]?=some x->l.Perm (x::l.eraseIdx k)
 | [],_,_,h=>by simp at h
 | y::l,0,x,h=>by
   simp at h
   subst h
   exact .refl _
 | y::l,k+1,x,h=>by
   have ih:=ziH (l:=l) (k:=k) (by simpa using h)
   exact (ih.cons y).trans (.swap _ _ _)
theorem zkU {α β:Type} (f:α->β):∀ (l:List α) (k:Nat),(l.map f).eraseIdx k=(l.eraseIdx k).map f
 | [],_=>rfl
 | _::_,0=>rfl
 | y::l,k+1=>ya8 (f y :: ·) (zkU f l k)
theorem zjB (l:List Nat):canD (.lst (l.map λn:Nat=>D.int (n:Int)))=true:=zuz (enc:=λn:Nat=>D.int (n:Int)) (p:=λn:Nat=>PyData.int (n:Int)) (λ_=>rfl) (λ_=>rfl) (λ_=>by show (0:Nat)<=50; decide) l
abbrev nD (n:Nat):D:=.int (n:Int)
theorem zjC {n:Nat} (h:n<=1000):(n:Int)<1073741824:=ycp (Int.ofNat_le.mpr h) (by decide)
theorem zuE {n:Nat} (h:n<=1000):(n:Int)<1000000000:=ycp (Int.ofNat_le.mpr h) (by decide)
abbrev Joint:=(End×D)×(End×D)
theorem zkV {f:D->R (Option D)} {p:Nat->Bool}:∀ (l:List Nat),(∀ k∈l,f (nD k)=.ok (if p k=true then some (nD k) else none))->lcF' f (l.map nD)=.ok ((l.filter p).map nD)
 | [],_=>rfl
 | k::l,h=>by
   rw [yaH]
   unfold lcF'
   rw [h k yaa,zkV l λx hx=>h x (yab _ hx),ycJ]
   cases p k<;>rfl
theorem zr8 {f:D->R (Option D)} {p:Nat->Bool} (l:List Nat) (hl:l.length<=1000) (h:∀ k∈l,f (nD k)=.ok (if p k=true then some (nD k) else none)):lcF f (l.map nD)=.ok ((l.filter p).map nD):=by
 unfold lcF
 rw [zaz (zdT (by rw [yac,zf0]; omega)),zkV l h]
theorem zuF {α:Type} (enc:α->D) {l:List α} {k:Nat} {x:α} (h:l[k]?=some x):nIx (.lst (l.map enc)) (nD k)=.ok (enc x):=zkg (atI_nat (by rw [yaI,h]; rfl))
theorem zwF (n:Nat):rngD 0 n=(List.range n).map nD:=ztL n
section
variable {B:List (End×D)}
theorem pD_sm {x:End×D} (h:zcC x.2):Sm 2 (pD x):=sm_two (sm_e 0 _) (zgG h)
theorem zxI {F:List (End×D)} (G:∀ x∈F,zcC x.2) (hl:F.length<=1000):canD (.lst (F.map pD))=true:=by
 have:Sm 3 (.lst (F.map pD)):=⟨by rw [yac]; exact hl,λd hd=>by
  obtain ⟨x,hx,rfl⟩:=yan.mp hd
  exact pD_sm (G x hx)⟩
 exact this.can (by decide)
def zuG (F:List (End×D)) (d:D) (k:Nat):Bool:=match F[k]? with
 | some y=>eqD y.2 (zfT d)
 | none=>false
theorem zzI {F:List (End×D)} {d:D} (G:∀ x∈F,zcC x.2) (g:zcC d) (hl:F.length<=1000) :
 lcF (λd_1:D=>R.bind (nIx (.lst (F.map pD)) d_1) λt_8 =>
  R.bind (nIx t_8 (.int 1)) λt_9 =>
  R.bind (zcJ d) λt_10 =>
  R.bind (nEq false t_9 t_10) λt_11 =>
  if t_11=true then (.ok ((some d_1)):R (Option D)) else .ok none) (rngD 0 F.length)=.ok (((List.range F.length).filter (zuG F d)).map nD):=by
 rw [zwF]
 refine zr8 _ (by rw [yau]; exact hl) λk hk => ?_
 have hk:=yaA.mp hk
 obtain ⟨y,hy⟩:∃ y,F[k]?=some y:=⟨_,yak hk⟩
 have e:nIx (pD y) (.int 1)=.ok y.2:=zgU _ _ _
 rw [zuF pD hy,zab,e,zab,zgl g,zab,zzE false (G y (yaL hy)) (zpx g).1,zab]
 unfold zuG
 rw [hy]
 dsimp only
 rw [yaz yax]
 by_cases c:eqD y.2 (zfT d)=true
 ·rw [yaw c,yaw c]
 ·rw [yaz c,yaz c]
end
inductive Lk where
 | ende (e:End)
 | bare
 | to (j:Nat)
abbrev Slot:=D×Lk
def qSl (Q:List (End×D)):List Slot:=Q.map λx=>(zfT x.2,.ende x.1)
def bSl:Nat->List D->List Slot
 | _,[]=>[]
 | k,c::cs=>(c,.bare)::(zfT c,.to k)::bSl (k+2) cs
def pn (p:List Nat) (k:Nat):Nat:=p[k]?.getD 0
theorem zqT (a b:List Wire):flat (a++b)=flat a++flat b:=List.flatMap_append
section
variable {p:List Nat} {N:Nat}
theorem zzJ (hp:p.Perm (List.range N)) {k:Nat} (hk:k<N):p[k]?=some (pn p k):=by
 have l:p.length=N:=by rw [hp.length_eq,yau]
 unfold pn
 rw [yak (by omega)]
 rfl
theorem pn_lt (hp:p.Perm (List.range N)) {k:Nat} (hk:k<N):pn p k<N:=yaA.mp (hp.mem_iff.mp (yaL (zzJ hp hk)))
end
def slots (Q:List (End×D)) (cs:List D):List Slot:=qSl Q++bSl Q.length cs
def sw (w:Wire):Wire:=if leOf ltE w.1 w.2=true then w else (w.2,w.1)
theorem zzK {xs:List D} {k:Nat} {d:D} (h:k<xs.length):nStL xs (nD k) d=.ok (xs.set k d):=by
 have e:ixN xs.length (k:Int)=some k:=by
  unfold ixN
  rw [yaw (by omega),yaw (by omega),ybW]
 show (ofO (ixN xs.length (k:Int))).bind _=_
 rw [e]
 rfl
theorem nAddL_of {s t:List D} (h:s.length+t.length<=1000):zii (.lst s) (.lst t)=.ok (s++t):=zaz (zdT (by rw [zf0]; omega))
section
variable {rows:List D}
def zwG (ws:List Wire):List (End×D):=ws.flatMap λw=>[(w.1,eD w.2),(w.2,eD w.1)]
theorem zlU:∀ ws:List Wire,(zwG ws).map (·.1)=flat ws
 | []=>rfl
 | w::ws=>by
   show w.1::w.2::(zwG ws).map (·.1)=w.1::w.2::flat ws
   rw [zlU ws]
end
theorem zpy:∀ {ds:List D},(∀ d∈ds,nob d=true)->∃ ps,D.pys ds=some ps/\NoBs ps=true
 | [],_=>⟨[],rfl,rfl⟩
 | d::ds,h=>by
   obtain ⟨ps,e1,e2⟩:=zpy (ds:=ds) λx hx=>h x (yab _ hx)
   have hd:=h d yaa
   unfold nob at hd
   cases e:d.py with
   | none=>rw [e] at hd; cases hd
   | some p =>
     rw [e] at hd
     refine ⟨p::ps,?_,?_⟩
     ·unfold D.pys
      rw [e,e1]
     ·unfold NoBs
      have hd:NoB p=true:=hd
      rw [hd,e2]
      rfl
theorem zzL {ds:List D} (h:∀ d∈ds,nob d=true):nob (.lst ds)=true:=by
 obtain ⟨ps,e1,e2⟩:=zpy h
 unfold nob D.py
 rw [e1]
 exact e2
theorem zpz {n m:Nat} (neg:Bool) {a b:D} (ha:Sm n a) (hb:Sm m b) (hn:n<=60) (hm:m<=60):nEq neg a b=.ok (if neg=true then !eqD a b else eqD a b):=ztI (ha.eqOk hb hn hm)
theorem zfI {ds:List D} (h:∀ d∈ds,nob d=true):nob (.tup ds)=true:=by
 obtain ⟨ps,e1,e2⟩:=zpy h
 unfold nob D.py
 rw [e1]
 exact e2
theorem zqU {a:D} (ha:nob a=true):eqD a a=true:=(zjZ ha ha).mpr rfl
section
variable {O O':List D} {ss ss':List Str} {ws ws':List Wire} {rs rs':List D} {p:List Nat}
theorem nob_ws (ws:List Wire):nob (.tup (ws.map wD))=true:=zfI λd hd=>by
 obtain ⟨w,_,rfl⟩:=yan.mp hd
 rfl
end
theorem zxJ:∀ (p:List Nat) (b:Nat),b∈p->∃ j,idxV (V.int (b:Int)) (p.map λ(n:Nat)=>V.int (n:Int))=some j/\p[j]?=some b
 | [],_,h=>nomatch h
 | a::p,b,h=>by
   unfold idxV
   rw [yaH]
   dsimp only
   by_cases e:a=b
   ·subst e
    refine ⟨0,yaw ?_,rfl⟩
    show ((a:Int)==(a:Int))=true
    exact beq_self_eq_true _
   ·have ne:¬ eqV (V.int (a:Int)) (V.int (b:Int))=true:=λz=>by
     have z:((a:Int)==(b:Int))=true:=z
     rw [ycR] at z
     exact e (Int.ofNat.inj z)
    rw [yaz ne]
    obtain ⟨j,h1,h2⟩:=zxJ p b ((yap.mp h).resolve_left λz=>e z.symm)
    exact ⟨j+1,by rw [h1]; rfl,h2⟩
theorem zoy:∀ p:List Nat,zeC (p.map nD)=some (p.map λ(n:Nat)=>V.int (n:Int))
 | []=>rfl
 | n::p=>by
   rw [yaH]
   unfold zeC
   rw [zoy p]
   rfl
theorem again {p:List Nat} {n:Nat} (hp:p.Perm (List.range n)) (hn:n<=1000):∃ q:List Nat,lcM (λd_4:D=>nLIx (.lst (p.map nD)) d_4) (rngD 0 n)=.ok (q.map nD)/\q.Perm (List.range n)/\(∀ k,k<n->pn q (pn p k)=k)/\∀ k,k<n->pn p (pn q k)=k:=by
 have nd:p.Nodup:=hp.nodup_iff.mpr List.nodup_range
 have lp:p.length=n:=by rw [hp.length_eq,yau]
 obtain ⟨ix,hix⟩:∃ ix:Nat->Nat,∀ b,b<n->nLIx (.lst (p.map nD)) (nD b)=.ok (nD (ix b))/\p[ix b]?=some b:=by
  refine ⟨λb=>(idxV (V.int (b:Int)) (p.map λ(n:Nat)=>V.int (n:Int))).getD 0,λb hb => ?_⟩
  obtain ⟨j,h1,h2⟩:=zxJ p b (hp.mem_iff.mpr (yaA.mpr hb))
  dsimp only
  rw [h1]
  refine ⟨?_,h2⟩
  unfold nLIx
  dsimp only
  rw [zoy]
  show (match idxV (V.int (b:Int)) (p.map λ(n:Nat)=>V.int (n:Int)) with
   | some j=>R.ok (D.int (j:Nat))
   | none=>.no)=_
  rw [h1]
  rfl
 have lt:∀ b,b<n->ix b<n:=λb hb=>by
  have:=(yal.mp (hix b hb).2).1
  omega
 have pq:∀ b,b<n->pn p (ix b)=b:=λb hb=>by
  have:=zzJ hp (lt b hb)
  rw [(hix b hb).2] at this
  exact (yaT this).symm
 have qi:∀ b,b<n->pn ((List.range n).map ix) b=ix b:=λb hb=>by
  unfold pn
  rw [yaI,yaU hb]
  rfl
 refine ⟨(List.range n).map ix,?_,?_,λk hk => ?_,λk hk=>by rw [qi k hk]; exact pq k hk⟩
 ·rw [ztL,yaY]
  have key:∀ l:List Nat,(∀ b∈l,b<n)->lcM' (λd_4:D=>nLIx (.lst (p.map nD)) d_4) (l.map λ(k:Nat)=>D.int k)=.ok (l.map (nD∘ix)):=by
   intro l
   induction l with
   | nil=>exact λ_=>rfl
   | cons b l ih =>
     intro h
     rw [yaH]
     unfold lcM'
     have e:=(hix b (h b yaa)).1
     rw [show D.int ((b:Nat):Int)=nD b from rfl,e,ih λx hx=>h x (yab _ hx)]
     rfl
  unfold lcM
  rw [zaz (zdT (by rw [yac,yau,zf0]; omega)),key _ λb hb=>yaA.mp hb]
 ·refine zkT _ _ ?_ (λx hx => ?_) (by rw [yac]; exact yaj _)
  ·refine yca.mpr ?_
   refine (List.pairwise_lt_range (n:=n)).imp_of_mem λ{a b} ha hb h e => ?_
   have h1:=pq a (yaA.mp ha)
   have h2:=pq b (yaA.mp hb)
   rw [e,h2] at h1
   omega
  ·obtain ⟨b,hb,rfl⟩:=yan.mp hx
   exact yaA.mpr (lt b (yaA.mp hb))
 ·have hk2:=pn_lt hp hk
  rw [qi _ hk2]
  have h1:=(hix _ hk2).2
  rw [← zzJ hp hk] at h1
  exact (List.getElem?_inj (by have:=lt _ hk2; omega) nd).mp h1
section
variable {rows:List D}
theorem zfJ {α:Type} {f:D->R D} {enc g:α->D} (l:List α) (h:∀ a∈l,f (enc a)=.ok (g a)) (hl:l.length<=1000):lcM f (l.map enc)=.ok (l.map g):=by
 have key:∀ l:List α,(∀ a∈l,f (enc a)=.ok (g a))->lcM' f (l.map enc)=.ok (l.map g):=by
  intro l
  induction l with
  | nil=>exact λ_=>rfl
  | cons a l ih =>
    intro h
    rw [yaH]
    unfold lcM'
    rw [h a yaa,ih λx hx=>h x (yab _ hx)]
    rfl
 unfold lcM
 rw [zaz (zdT (by rw [yac,zf0]; omega)),key l h]
end
theorem nE_nil {xs:List D} (c:canD (.lst xs)=true):nEq false (.lst xs) (.lst ([]:List D))=.ok xs.isEmpty:=by
 have ok:=zml c (show canD (.lst ([]:List D))=true by decide +kernel)
 have h:=zdJ c
 rw [nN_of ok] at h
 rw [nE_of ok]
 injection h with h
 congr 1
 cases hx:xs.isEmpty<;>rw [hx] at h<;>simpa using h
theorem zzM {m:Int} (h1:1<=m) (h2:m<=63):∃ ds,nR3 (.int 0) (.int m) (.int 2)=.ok ds/\∀ d∈ds,∃ c:Int,0<=c/\d=.int c:=by
 have e0:Builtin.Range.rangeSize 0 m 2=(m-0-1) / 2+1:=by
  unfold Builtin.Range.rangeSize
  rw [yaw (by decide),yaw (by omega)]
 refine ⟨rngC 0 2 (Builtin.Range.rangeSize 0 m 2).toNat,?_,λd hd => ?_⟩
 ·unfold nR3
  simp only [intD,ofO,R.bind]
  refine zaz ?_
  have s:Builtin.Range.small 0 m 2=true:=by
   unfold Builtin.Range.small
   have fits:∀ i:Int,0<=i->i<=1000->Builtin.Range.rangeFitsLong i=true:=λi i0 i1=>by
    unfold Builtin.Range.rangeFitsLong
    rw [yas]
    exact ⟨yaf (Int.le_trans (by decide) i0),yaf (ycp i1 (by decide))⟩
   rw [e0,fits 0 (by decide) (by decide),fits m (by omega) (by omega),fits 2 (by decide) (by decide),fits ((m-0-1) / 2+1) (by omega) (by omega),yaw (by decide),fits (m+(2-1)) (by omega) (by omega),Bool.or_true]
   rfl
  rw [s,e0]
  have:(0:Int)<=(m-0-1) / 2+1:=by omega
  rw [yaf this]
  decide
 ·unfold rngC at hd
  obtain ⟨k,hk,rfl⟩:=yan.mp hd
  exact ⟨_,by omega,rfl⟩
def Pr (ws:List Wire) (e d:End):Prop:=∃ w∈ws,(e=w.1/\d=w.2)\/(e=w.2/\d=w.1)
theorem Pr.symm {ws:List Wire} {e d:End} (h:Pr ws e d):Pr ws d e:=by
 obtain ⟨w,hw,⟨h1,h2⟩ | ⟨h1,h2⟩⟩:=h
 ·exact ⟨w,hw,.inr ⟨h2,h1⟩⟩
 ·exact ⟨w,hw,.inl ⟨h2,h1⟩⟩
theorem Pr.mem {ws:List Wire} {e d:End} (h:Pr ws e d):e∈flat ws/\d∈flat ws:=by
 obtain ⟨w,hw,⟨rfl,rfl⟩ | ⟨rfl,rfl⟩⟩:=h
 ·exact ⟨zh0.mpr ⟨w,hw,.inl rfl⟩,zh0.mpr ⟨w,hw,.inr rfl⟩⟩
 ·exact ⟨zh0.mpr ⟨w,hw,.inr rfl⟩,zh0.mpr ⟨w,hw,.inl rfl⟩⟩
theorem Pr.part {ws:List Wire} {e d:End} (h:Pr ws e d):(e,eD d)∈zwG ws:=by
 obtain ⟨w,hw,⟨rfl,rfl⟩ | ⟨rfl,rfl⟩⟩:=h
 ·exact ybf.mpr ⟨w,hw,by simp⟩
 ·exact ybf.mpr ⟨w,hw,by simp⟩
theorem zuH {ws:List Wire} (nd:(flat ws).Nodup):((zwG ws).map (·.1)).Nodup:=by rw [zlU]; exact nd
theorem Pr.uniq {ws:List Wire} (nd:(flat ws).Nodup) {e d d':End} (h:Pr ws e d) (h':Pr ws e d'):d=d':=by
 have h1:=zqG (zuH nd) h.part
 have h2:=zqG (zuH nd) h'.part
 rw [h1] at h2
 exact zxv (yaT h2)
def cal (f:Nat->Nat) (e:End):End:=if e.1=-1 then e else ((f e.1.toNat:Nat),e.2)
structure Ports (ks:List Str) (ws:List Wire) (np:Str->Nat):Prop where
 nd:(flat ws).Nodup
 out:∀ e∈flat ws,e.1=-1\/∃ (k p:Nat) (s:Str),ks[k]?=some s/\p<np s/\e=((k:Int),(p:Int))
 all:∀ (k p:Nat) (s:Str),ks[k]?=some s->p<np s->(((k:Int),(p:Int)):End)∈flat ws
 few:ks.length<=150
 lw:ws.length<=400
section
variable {kP k2:List Str} {wP w2:List Wire} {np:Str->Nat} {b:Nat}
def Done1 (wP w2:List Wire) (ord:List Nat) (f:Nat->Nat) (k p:Nat):Prop:=∀ d,Pr wP ((k:Int),(p:Int)) d->Pr w2 ((f k:Nat),(p:Int)) (cal f d)/\(d.1≠-1->d.1.toNat∈ord)
def upF (f:Nat->Nat) (c x:Nat):Nat->Nat:=λk=>if k=c then x else f k
theorem upF_ne {f:Nat->Nat} {c x k:Nat} (h:k≠c):upF f c x k=f k:=by
 unfold upF
 exact yaz h
theorem zxK {l:List Nat} {c k:Nat} (hc:c∉l) (hk:k∈l):k≠c:=λz=>hc (z▸hk)
theorem cal_up {f:Nat->Nat} {c x:Nat} {d:End} (h:d.1≠-1->d.1.toNat≠c):cal (upF f c x) d=cal f d:=by
 unfold cal upF
 by_cases e:d.1=-1
 ·rw [yaw e,yaw e]
 ·rw [yaz e,yaz e,yaz (h e)]
theorem Done1.up {ord:List Nat} {f:Nat->Nat} {k p c x:Nat} (h:Done1 wP w2 ord f k p) (hk:k∈ord) (hc:c∉ord):Done1 wP w2 (ord++[c]) (upF f c x) k p:=λd hd=>by
 obtain ⟨h1,h2⟩:=h d hd
 have ek:upF f c x k=f k:=upF_ne (zxK hc hk)
 rw [ek,cal_up λz=>zxK hc (h2 z)]
 exact ⟨h1,λz=>yai _ (h2 z)⟩
end
section
variable {kP k2:List Str} {wP w2:List Wire} {np:Str->Nat} {b:Nat}
def rowD (f:Nat->Nat) (n:Nat):D:=.tup ((List.range n).map λk=>nD (f k))
end
section
variable {kP k2:List Str} {wP w2:List Wire} {np:Str->Nat} {b:Nat}
def grow (n:Nat) (rs:List (List Nat)):List (List Nat):=rs.flatMap λr=>((List.range n).filter λx => !decide (x∈r)).map λx=>r++[x]
end
def inF (F:List Nat) (i:Int):Bool:=F.any λn=>decide ((n:Int)=i)
theorem zzN {F:List Nat} {i:Int}:inF F i=true↔∃ n∈F,(n:Int)=i:=by
 unfold inF
 rw [ycH]
 constructor
 ·rintro ⟨n,h,e⟩
  exact ⟨n,h,yao e⟩
 ·rintro ⟨n,h,e⟩
  exact ⟨n,h,yaf e⟩
theorem zuI {F:List Nat} {m:Nat} (nd:F.Nodup) (lt:∀ x∈F,x<m):F.length<=m:=by
 have:=(nd.length_le_of_subset (l₂:=List.range m)) λx hx=>yaA.mpr (lt x hx)
 rwa [yau] at this
def npR (rows:List D) (s:Str):Nat:=(zdU rows s).length
structure PV (rows:List D) (kP:List Str) (wP:List Wire):Prop where
 kinds:∀ s∈kP,s∈rows.map zav
 pos:1<=kP.length
 six:kP.length<=6
 nd:(flat wP).Nodup
 out:∀ e∈flat wP,e.1=-1\/∃ (k p:Nat) (s:Str),kP[k]?=some s/\p<npR rows s/\e=((k:Int),(p:Int))
 lt:∀ w∈wP,ltE w.1 w.2=true
 box:∀ w∈wP,w.2.1≠-1
 lw:wP.length<=100
def ixO (o:List Nat) (k:Nat):Nat:=(idxV (V.int (k:Int)) (o.map λ(n:Nat)=>V.int (n:Int))).getD 0
def incW (o:List Nat) (w:Wire):Bool:=inF o w.1.1||inF o w.2.1
def calW (o:List Nat) (w:Wire):Wire:=sw (cal (ixO o) w.1,cal (ixO o) w.2)
section
variable {rows:List D} {kP:List Str} {wP:List Wire}
theorem PV.ge (V:PV rows kP wP) {e:End} (h:e∈flat wP):-1<=e.1:=by
 rcases V.out e h with h | ⟨k,p,s,_,_,rfl⟩
 ·omega
 ·show -1<=((k:Nat):Int)
  omega
end
def par (ws:List Wire) (e:End):End:=match ws.find? (λw=>decide (w.1=e)||decide (w.2=e)) with
 | some w=>if w.1=e then w.2 else w.1
 | none=>e
theorem zuJ {ws:List Wire} {e:End} (h:e∈flat ws):Pr ws e (par ws e):=by
 unfold par
 cases c:ws.find? (λw=>decide (w.1=e)||decide (w.2=e)) with
 | none =>
   obtain ⟨w,hw,h⟩:=zh0.mp h
   have:=yb5.mp c w hw
   rw [ybm,yaq,yaq] at this
   exact absurd (h.imp Eq.symm Eq.symm) this
 | some w =>
   have h1:=List.find?_some c
   have hw:=List.mem_of_find?_eq_some c
   show Pr ws e (if w.1=e then w.2 else w.1)
   rw [ybm,yaq,yaq] at h1
   by_cases z:w.1=e
   ·rw [yaw z]
    exact ⟨w,hw,.inl ⟨z.symm,rfl⟩⟩
   ·rw [yaz z]
    exact ⟨w,hw,.inr ⟨(h1.resolve_left z).symm,rfl⟩⟩
theorem zuK {F:List Nat} {x:Nat}:inF F (x:Int)=true↔x∈F:=by
 rw [zzN]
 constructor
 ·rintro ⟨n,h,e⟩
  have:n=x:=by omega
  exact this▸h
 ·exact λh=>⟨x,h,rfl⟩
def visP (ws:List Wire) (k:Nat) (ord:List Nat) (p:Nat):List Nat:=if (decide (0<=(par ws ((k:Int),(p:Int))).1) && !inF ord (par ws ((k:Int),(p:Int))).1)=true then ord++[(par ws ((k:Int),(p:Int))).1.toNat] else ord
def vis (ws:List Wire) (m k:Nat) (ord:List Nat):List Nat:=(List.range m).foldl (visP ws k) ord
def stp (ss:List Str) (np:Str->Nat) (ws:List Wire) (ord:List Nat) (t:Nat):List Nat:=match ord[t]? with
 | some k=>(match ss[k]? with
   | some s=>vis ws (np s) k ord
   | none=>ord)
 | none=>ord
def wk (ss:List Str) (np:Str->Nat) (ws:List Wire) (b t:Nat):List Nat:=(List.range t).foldl (stp ss np ws) [b]
theorem zkW (ss:List Str) (np:Str->Nat) (ws:List Wire) (b t:Nat):wk ss np ws b (t+1)=stp ss np ws (wk ss np ws b t) t:=by
 unfold wk
 rw [ycO,List.foldl_append]
 rfl
structure WF (n:Nat) (ord:List Nat):Prop where
 nd:ord.Nodup
 lt:∀ x∈ord,x<n
theorem WF.len {n:Nat} {ord:List Nat} (h:WF n ord):ord.length<=n:=zuI h.nd h.lt
section
variable {ss:List Str} {ws:List Wire} {np:Str->Nat}
theorem Ports.ge (P:Ports ss ws np) {e:End} (h:e∈flat ws):-1<=e.1:=by
 rcases P.out e h with h | ⟨k,p,s,_,_,rfl⟩
 ·omega
 ·show -1<=((k:Nat):Int)
  omega
theorem Ports.inb (P:Ports ss ws np) {e:End} (h:e∈flat ws) (h0:0<=e.1):e.1.toNat<ss.length:=by
 rcases P.out e h with h | ⟨k,p,s,h1,_,rfl⟩
 ·omega
 ·exact (yal.mp h1).1
theorem zzO (P:Ports ss ws np) {k p:Nat} {s:Str} (hs:ss[k]?=some s) (hp:p<np s) {ord:List Nat} (h:WF ss.length ord):WF ss.length (visP ws k ord p):=by
 have m:=(zuJ (P.all k p s hs hp)).mem.2
 unfold visP
 split
 ·rename_i c
  rw [yas,yaq,yb9] at c
  have h2:(par ws ((k:Int),(p:Int))).1.toNat∉ord:=λz=>by
   have:=zuK.mpr z
   rw [yb0 c.1,c.2] at this
   cases this
  refine ⟨ybg.mpr ⟨h.nd,by simp,λa ha b hb e => ?_⟩,λx hx => ?_⟩
  ·rw [yah.mp hb] at e
   exact h2 (e▸ha)
  ·rcases yay.mp hx with hx | hx
   ·exact h.lt x hx
   ·rw [yah.mp hx]
    exact P.inb m c.1
 ·exact h
theorem zwH (ws:List Wire) (k:Nat) (ord:List Nat) (p:Nat):∃ t,visP ws k ord p=ord++t:=by
 unfold visP
 split
 ·exact ⟨_,rfl⟩
 ·exact ⟨[],(yaQ _).symm⟩
theorem zuL (P:Ports ss ws np) {k:Nat} {s:Str} (hs:ss[k]?=some s):∀ (ps:List Nat) {ord:List Nat},(∀ p∈ps,p<np s)->WF ss.length ord->WF ss.length (ps.foldl (visP ws k) ord)
 | [],_,_,h=>h
 | p::ps,_,hp,h=>zuL P hs ps (λq hq=>hp q (yab _ hq)) (zzO P hs (hp p yaa) h)
theorem zm3 (ws:List Wire) (k:Nat):∀ (ps:List Nat) (ord:List Nat),∃ t,ps.foldl (visP ws k) ord=ord++t
 | [],ord=>⟨[],(yaQ _).symm⟩
 | p::ps,ord=>by
   obtain ⟨t1,e1⟩:=zwH ws k ord p
   obtain ⟨t2,e2⟩:=zm3 ws k ps (visP ws k ord p)
   exact ⟨t1++t2,by show ps.foldl (visP ws k) (visP ws k ord p)=_; rw [e2,e1,yae]⟩
theorem stp_wf (P:Ports ss ws np) {ord:List Nat} (h:WF ss.length ord) (t:Nat):WF ss.length (stp ss np ws ord t):=by
 unfold stp
 split
 ·split
  ·rename_i k _ s hs
   exact zuL P hs _ (λp hp=>yaA.mp hp) h
  ·exact h
 ·exact h
theorem zuM (ord:List Nat) (t:Nat):∃ u,stp ss np ws ord t=ord++u:=by
 unfold stp
 split
 ·split
  ·exact zm3 _ _ _ _
  ·exact ⟨[],(yaQ _).symm⟩
 ·exact ⟨[],(yaQ _).symm⟩
theorem zzP (P:Ports ss ws np) {b:Nat} (hb:b<ss.length):∀ t,WF ss.length (wk ss np ws b t)
 | 0=>⟨by unfold wk; simp,λx hx=>by
   have:x=b:=by unfold wk at hx; simpa using hx
   exact this▸hb⟩
 | t+1=>by
   rw [zkW]
   exact stp_wf P (zzP P hb t) t
theorem zxL {b t:Nat} (h:(wk ss np ws b t).length<=t):∀ j,wk ss np ws b (t+j)=wk ss np ws b t
 | 0=>rfl
 | j+1=>by
   have ih:=zxL h j
   rw [show t+(j+1)=(t+j)+1 by omega,zkW,ih]
   unfold stp
   rw [yar (by omega)]
end
def Reach (ws:List Wire) (x y:Nat):Prop:=∀ S:Nat->Prop,S x->(∀ (k p:Nat) (d:End),S k->Pr ws ((k:Int),(p:Int)) d->0<=d.1->S d.1.toNat)->S y
section
variable {ws:List Wire}
theorem Reach.refl (x:Nat):Reach ws x x:=λ_ h _=>h
theorem Reach.trans {x y z:Nat} (h:Reach ws x y) (h':Reach ws y z):Reach ws x z:=λS s c=>h' S (h S s c) c
theorem Reach.edge {k p:Nat} {d:End} (h:Pr ws ((k:Int),(p:Int)) d) (h0:0<=d.1):Reach ws k d.1.toNat:=λ_ s c=>c k p d s h h0
end
section
variable {ss:List Str} {ws:List Wire} {np:Str->Nat}
theorem Ports.form (P:Ports ss ws np) {e:End} (h:e∈flat ws) (h0:0<=e.1):∃ (k p:Nat) (s:Str),ss[k]?=some s/\p<np s/\e=((k:Int),(p:Int)):=(P.out e h).resolve_left (by omega)
theorem Reach.symm (P:Ports ss ws np) {x y:Nat} (h:Reach ws x y):Reach ws y x:=by
 refine h (λz=>Reach ws z x) (.refl x) λk p d hk hd h0 => ?_
 obtain ⟨k',p',s,h1,h2,rfl⟩:=P.form hd.mem.2 h0
 exact (Reach.edge hd.symm (yco k)).trans hk
theorem zwI (ws:List Wire) (k:Nat) (ord:List Nat) (p:Nat) (h0:0<=(par ws ((k:Int),(p:Int))).1):(par ws ((k:Int),(p:Int))).1.toNat∈visP ws k ord p:=by
 unfold visP
 split
 ·exact yag _ yaa
 ·rename_i c
  rw [yas,yaq,yb9,not_and] at c
  have c:=c h0
  have c:inF ord (par ws ((k:Int),(p:Int))).1=true:=by simpa using c
  rw [← yb0 h0] at c
  exact zuK.mp c
theorem zqV (ws:List Wire) (k:Nat):∀ (ps:List Nat) (ord:List Nat) (p:Nat),p∈ps->0<=(par ws ((k:Int),(p:Int))).1->(par ws ((k:Int),(p:Int))).1.toNat∈ps.foldl (visP ws k) ord
 | [],_,_,h,_=>nomatch h
 | q::ps,ord,p,h,h0=>by
   show _∈ps.foldl (visP ws k) (visP ws k ord q)
   rcases yap.mp h with rfl | h
   ·obtain ⟨t,e⟩:=zm3 ws k ps (visP ws k ord p)
    rw [e]
    exact yai _ (zwI ws k ord p h0)
   ·exact zqV ws k ps _ p h h0
theorem zqW (P:Ports ss ws np) {b k:Nat} {s:Str} (hs:ss[k]?=some s) (hk:Reach ws b k):∀ (ps:List Nat) (ord:List Nat),(∀ p∈ps,p<np s)->(∀ x∈ord,Reach ws b x)->∀ x∈ps.foldl (visP ws k) ord,Reach ws b x
 | [],_,_,h=>h
 | p::ps,ord,hp,h=>by
   refine zqW P hs hk ps _ (λq hq=>hp q (yab _ hq)) λx hx => ?_
   unfold visP at hx
   split at hx
   ·rename_i c
    rw [yas,yaq] at c
    rcases yay.mp hx with hx | hx
    ·exact h x hx
    ·rw [yah.mp hx]
     exact hk.trans (.edge (zuJ (P.all k p s hs (hp p yaa))) c.1)
   ·exact h x hx
theorem zxM (P:Ports ss ws np) {b:Nat} (hb:b<ss.length):∀ t,∀ x∈wk ss np ws b t,Reach ws b x
 | 0,x,hx=>by
   have:x=b:=by unfold wk at hx; simpa using hx
   rw [this]
   exact .refl b
 | t+1,x,hx=>by
   have ih:=zxM P hb t
   rw [zkW] at hx
   unfold stp at hx
   cases hk:(wk ss np ws b t)[t]? with
   | none=>rw [hk] at hx; exact ih x hx
   | some k =>
     rw [hk] at hx
     dsimp only at hx
     cases hs:ss[k]? with
     | none=>rw [hs] at hx; exact ih x hx
     | some s =>
       rw [hs] at hx
       exact zqW P hs (ih k (yaL hk)) _ _ (λp hp=>yaA.mp hp) ih x hx
theorem zkX (P:Ports ss ws np) {b:Nat} (hb:b<ss.length):∀ (t i k:Nat),i<t->(wk ss np ws b t)[i]?=some k->∀ (s:Str) (p:Nat),ss[k]?=some s->p<np s->0<=(par ws ((k:Int),(p:Int))).1->(par ws ((k:Int),(p:Int))).1.toNat∈wk ss np ws b t
 | 0,_,_,h,_,_,_,_,_,_=>absurd h (ya0 _)
 | t+1,i,k,hi,hk,s,p,hs,hp,h0=>by
   have e:=zkW ss np ws b t
   by_cases c:t<(wk ss np ws b t).length
   ·obtain ⟨u,eu⟩:=zuM (ss:=ss) (np:=np) (ws:=ws) (wk ss np ws b t) t
    have hk':(wk ss np ws b t)[i]?=some k:=by
     rw [e,eu,ybl (by omega)] at hk
     exact hk
    by_cases hit:i<t
    ·rw [e,eu]
     exact yai _ (zkX P hb t i k hit hk' s p hs hp h0)
    ·have:i=t:=by omega
     subst this
     rw [e]
     unfold stp
     rw [hk']
     dsimp only
     rw [hs]
     exact zqV ws k _ _ p (yaA.mpr hp) h0
   ·have e2:=zxL (ss:=ss) (np:=np) (ws:=ws) (b:=b) (t:=t) (by omega) 1
    rw [e2] at hk ⊢
    have:i<(wk ss np ws b t).length:=(yal.mp hk).1
    exact zkX P hb t i k (by omega) hk s p hs hp h0
theorem zuN (b:Nat):∀ t,∃ u,wk ss np ws b t=b::u
 | 0=>⟨[],rfl⟩
 | t+1=>by
   obtain ⟨u,e⟩:=zuN b t
   obtain ⟨v,e2⟩:=zuM (ss:=ss) (np:=np) (ws:=ws) (wk ss np ws b t) t
   exact ⟨u++v,by rw [zkW,e2,e]; rfl⟩
abbrev wlk (ss:List Str) (np:Str->Nat) (ws:List Wire) (b:Nat):List Nat:=wk ss np ws b ss.length
theorem zr9 (P:Ports ss ws np) {b:Nat} (hb:b<ss.length) {k p:Nat} {d:End} (hk:k∈wlk ss np ws b) (hd:Pr ws ((k:Int),(p:Int)) d) (h0:0<=d.1):d.1.toNat∈wlk ss np ws b:=by
 obtain ⟨i,hi⟩:=ybo.mp hk
 have li:i<(wk ss np ws b ss.length).length:=(yal.mp hi).1
 have lw:=(zzP P hb ss.length).len
 obtain ⟨k',p',s,h1,h2,h3⟩:=P.form hd.mem.1 (yco k)
 have e1:(k:Int)=(k':Int):=ya8 Prod.fst h3
 have e2:(p:Int)=(p':Int):=ya8 Prod.snd h3
 have e1:k=k':=by omega
 have e2:p=p':=by omega
 subst e1 e2
 have ed:par ws ((k:Int),(p:Int))=d:=(zuJ hd.mem.1).uniq P.nd hd
 have:=zkX P hb ss.length i k (by omega) hi s p h1 h2 (by rw [ed]; exact h0)
 rwa [ed] at this
theorem zzQ (P:Ports ss ws np) {b:Nat} (hb:b<ss.length) {x:Nat}:x∈wlk ss np ws b↔Reach ws b x:=by
 refine ⟨zxM P hb _ x,λh => ?_⟩
 refine h (λz=>z∈wlk ss np ws b) ?_ λk p d hk hd h0=>zr9 P hb hk hd h0
 obtain ⟨u,e⟩:=zuN (ss:=ss) (np:=np) (ws:=ws) b ss.length
 show b∈wk ss np ws b ss.length
 rw [e]
 exact yaa
theorem Reach.lt (P:Ports ss ws np) {b x:Nat} (hb:b<ss.length) (h:Reach ws b x):x<ss.length:=(zzP P hb _).lt x ((zzQ P hb).mpr h)
end
section
variable {ss:List Str} {ws:List Wire} {np:Str->Nat}
def hg (ss:List Str) (np:Str->Nat) (ws:List Wire) (b x:Nat):Bool:=inF (wlk ss np ws b) x
end
def kO (ss:List Str) (o:List Nat):List Str:=o.map λ(k:Nat)=>((ss[k]?).getD ("" : Str):Str)
def wO (ws:List Wire) (o:List Nat):List Wire:=((ws.filter (incW o)).map (calW o)).mergeSort (leOf ltW)
section
variable {ss ss2:List Str} {ws ws2:List Wire} {np:Str->Nat}
structure Car (ss:List Str) (ws:List Wire) (ss2:List Str) (ws2:List Wire) (o:List Nat) (h:Nat->Nat):Prop where
 inj:∀ x∈o,∀ y∈o,h x=h y->x=y
 kind:∀ x∈o,ss2[h x]?=ss[x]?
 pr:∀ x∈o,∀ (p:Nat) (d:End),Pr ws ((x:Int),(p:Int)) d->Pr ws2 (((h x:Nat):Int),(p:Int)) (cal h d)
theorem Car.lt {o:List Nat} {h:Nat->Nat} (C:Car ss ws ss2 ws2 o h) (hl:∀ x∈o,x<ss.length) {x:Nat} (hx:x∈o):h x<ss2.length:=by
 have e:ss[x]?=some (ss[x]'(hl x hx)):=yak (hl x hx)
 have:=C.kind x hx
 rw [e] at this
 exact (yal.mp this).1
end
def nxt (ws:List Wire) (i p:Int):Int:=if (((i,p):End))∈flat ws then (par ws (i,p)).1 else -1
def PP2 (ss:List Str) (np:Str->Nat) (ws:List Wire) (b:Nat):List Str×List Wire:=(kO ss (wlk ss np ws b),wO ws (wlk ss np ws b))
theorem zpA {α:Type} {f:D->R (Option D)} {enc:α->D} {g:α->Option D} (l:List α) (h:∀ a∈l,f (enc a)=.ok (g a)) (hl:l.length<=1000):lcF f (l.map enc)=.ok (l.filterMap g):=by
 have key:∀ l:List α,(∀ a∈l,f (enc a)=.ok (g a))->lcF' f (l.map enc)=.ok (l.filterMap g):=by
  intro l
  induction l with
  | nil=>exact λ_=>rfl
  | cons a l ih =>
    intro h
    rw [yaH]
    unfold lcF'
    rw [h a yaa,ih λb hb=>h b (yab _ hb),yci]
    cases g a<;>rfl
 unfold lcF
 rw [zaz (zdT (by rw [yac,zf0]; omega)),key l h]
section
variable {ss ss2:List Str} {ws ws2:List Wire} {np:Str->Nat}
structure NI (ss:List Str) (ws:List Wire) (ss2:List Str) (ws2:List Wire) (bs L F:List Nat) (h:Nat->Nat):Prop where
 nd:L.Nodup
 mem:∀ x,x∈L↔x<ss.length/\∀ b∈bs,¬ Reach ws b x
 car:Car ss ws ss2 ws2 L h
 ndF:F.Nodup
 fr:∀ y,y∈F↔y<ss2.length/\∀ x∈L,h x≠y
variable {bs L F:List Nat} {h:Nat->Nat}
theorem NI.lt (I:NI ss ws ss2 ws2 bs L F h) {x:Nat} (hx:x∈L):x<ss.length:=((I.mem x).mp hx).1
def Good (ss ss2:List Str) (ws ws2:List Wire) (np:Str->Nat):Prop:=((List.range ss.length).map (PP2 ss np ws)).Perm ((List.range ss2.length).map (PP2 ss2 np ws2))
end
section
variable {rows:List D}
def ze3 (M:List End) (L:List (End×D)):List (End×D):=L.filter λx=>decide (x.1∉M)
theorem zlV {M:List End} {b:Int}:∀ (ds:List D) (j:Nat),lcF' (λ(d_3:D)=>R.bind (nUn2 d_3) λp_4=>R.bind (nIn true (.tup [D.int b,p_4.1]) (.dT (metT M))) λt_3 =>
 if t_3=true then (.ok ((some (.tup [(.tup [D.int b,p_4.1]),p_4.2]))):R (Option D)) else .ok none) (enF j ds)=.ok ((ze3 M (zf2 b j ds)).map pD)
 | [],_=>rfl
 | d::ds,j=>by
   unfold enF lcF' zf2 ze3
   rw [zlV ds (j+1),zcr,zab]
   dsimp only
   have e:nIn true (.tup [.int b,.int (j:Nat)]) (.dT (metT M))=.ok (xorB true (decide ((b,(j:Int))∈M))):=zzF true M (b,(j:Int))
   rw [e,zab,ycJ]
   by_cases c:(b,(j:Int))∈M
   ·rw [yaf c,yaz (by decide),yaD (by simpa using c),yaz yax]
    rfl
   ·rw [yaD c,yaw (by decide),yaf c,yaw rfl]
    rfl
theorem zoz (S:Stok rows) {M:List End}:∀ (ss:List Str) (j:Nat) (xs:List D),(∀ s∈ss,s∈rows.map zav)->xs.length+4*ss.length<=10000->forS (zeI (stkD rows) (metT M)) (enF j (ss.map D.str)) xs=.ok (xs++(ze3 M (zhN rows j ss)).map pD)
 | [],j,xs,_,_=>by
   show R.ok xs=R.ok (xs++[])
   rw [yaQ]
 | s::ss,j,xs,hs,hl=>by
   obtain ⟨ps,e1,e2,l1,l4,_⟩:=zt8 S (hs s yaa)
   rw [yaB] at hl
   rw [yaH]
   unfold enF
   have lf:(ze3 M (zf2 (j:Int) 0 ps)).length<=ps.length:=by
    have:=ybG (λx:End×D=>decide (x.1∉M)) (zf2 (j:Int) 0 ps)
    rwa [zf3] at this
   have h1:zeI (stkD rows) (metT M) (.tup [.int (j:Nat),.str s]) xs=.ok (xs++(ze3 M (zf2 (j:Int) 0 ps)).map pD):=by
    unfold zeI
    rw [zcr,zab]
    dsimp only
    rw [nIx_dK (y:=Sum.inr s) rfl e1,zab,zpl,zab]
    have e3:lcF (λ(d_3:D)=>R.bind (nUn2 d_3) λp_4=>R.bind (nIn true (.tup [.int (j:Nat),p_4.1]) (.dT (metT M))) λt_3 =>
     if t_3=true then (.ok ((some (.tup [(.tup [.int (j:Nat),p_4.1]),p_4.2]))):R (Option D)) else .ok none) (enF 0 ps)=.ok ((ze3 M (zf2 (j:Int) 0 ps)).map pD):=by
     unfold lcF
     rw [zaz (zdT (by rw [zmU,zf0]; omega))]
     exact zlV ps 0
    rw [e3,zab,zmM (by rw [yac]; omega),zab]
   rw [zhM,h1,zab,zoz S ss (j+1) _ (λt ht=>hs t (yab _ ht)) (by rw [yam,yac]; omega)]
   show _=R.ok (xs++(ze3 M (zf2 (j:Int) 0 (zdU rows s)++zhN rows (j+1) ss)).map pD)
   unfold ze3
   rw [e2,List.filter_append,yaR,yae]
theorem zoA:∀ (ws:List Wire) (M:List End),(M++flat ws).Nodup->M.length+2*ws.length<=10000->forS zeH (ws.map wD) (metT M)=.ok (metT (M++flat ws))
 | [],M,_,_=>by
   show R.ok _=R.ok (metT (M++[]))
   rw [yaQ]
 | w::ws,M,nd,hl=>by
   rw [yaB] at hl
   have ef:flat (w::ws)=w.1::w.2::flat ws:=rfl
   rw [ef] at nd ⊢
   obtain ⟨n1,n2,n3⟩:=ybg.mp nd
   have m1:w.1∉M:=λz=>n3 _ z _ yaa rfl
   have m2:w.2∉M++[w.1]:=λz=>by
    rcases yay.mp z with z | z
    ·exact n3 _ z _ (yab _ yaa) rfl
    ·have:=(ya9.mp n2).1
     rw [yah.mp z] at this
     exact this yaa
   have eu:nUn2 (wD w)=.ok (eD w.1,eD w.2):=rfl
   have h1:zeH (wD w) (metT M)=.ok (metT (M++[w.1]++[w.2])):=by
    unfold zeH
    rw [eu,zab]
    dsimp only
    rw [zuA m1 (by omega),zab,zuA m2 (by rw [yam]; show M.length+1<_; omega),zab]
   have e3:M++[w.1]++[w.2]++flat ws=M++w.1::w.2::flat ws:=by simp
   rw [yaH,zhM,h1,zab,zoA ws _ (by rw [e3]; exact nd) (by rw [yam,yam]; show M.length+1+1+2*ws.length<=_; omega),e3]
theorem ziI (S:Stok rows) {bm pm:M} {ss:List Str} {ps:List Wire} (hb:seqD bm.d=some (ss.map D.str)) (hp:seqD pm.d=some (ps.map wD)) (nd:(flat ps).Nodup) (h:∀ s∈ss,s∈rows.map zav) (ls:ss.length<=1000) (lp:ps.length<=1000) :
 zdO (.tup rows) bm pm=.ok ((ze3 (flat ps) (zhN rows 0 ss)).map pD):=by
 unfold zdO
 have o1:nOwn false pm=.ok (ps.map wD):=by
  unfold nOwn zj7
  rw [hp]
  rfl
 have o2:nOwn true bm=.ok (enF 0 (ss.map D.str)):=by
  unfold nOwn zj7
  rw [hb]
  show R.ok (enD (ss.map D.str))=_
  rw [zt7]
 have e1:forS zeH (ps.map wD) []=.ok (metT (flat ps)):=by
  have:=zoA ps [] (by rw [ybV]; exact nd) (by rw [yba]; omega)
  rw [ybV] at this
  exact this
 rw [o1,zab,e1,zab,zrV S.up S.good,zab,o2,zab]
 have e:=zoz S (M:=flat ps) ss 0 [] h (by rw [yba]; omega)
 show R.bind (forS (zeI (stkD rows) (metT (flat ps))) _ _) _=_
 rw [e,zab]
 rfl
theorem zuO (L:List (End×D)):ze3 [] L=L:=by
 unfold ze3
 rw [List.filter_eq_self]
 exact λx _=>yaf (λz=>nomatch z)
theorem zm4 (Fl:Full rows) {ss:List Str} (hss:∀ s∈ss,s∈rows.map zav):∀ x∈zhN rows 0 ss,OPt rows x.2:=λx hx=>by
 obtain ⟨k,p,s,_,hs,_,_,e⟩:=zks hx
 obtain ⟨r,hr,rfl⟩:=yan.mp (hss s hs)
 have e1:=zn2 Fl.st.up hr
 have e1:getK (stkD rows) (.inr (zav r))=some (zfO r):=e1
 have e2:zdU rows (zav r)=zmT (zfO r):=by
  unfold zdU
  rw [e1]
  rfl
 rw [e2] at e
 exact Fl.op r hr _ (yaL e)
theorem zm5 {n:Nat} {ds:List D} (h:∀ d∈ds,Sm n d) (hn:n<=50):canD (.lst ds)=true:=by
 obtain ⟨ps,f1,f2,f3⟩:=zny (n:=n) λd hd=>Sm.py (h d hd)
 have e:(D.lst ds).py=some (.list ps):=by
  unfold D.py
  rw [f1]
  rfl
 unfold canD
 rw [e]
 show ((PyData.list ps).canLay0&&decide ((PyData.list ps).depth<=64))=true
 have d:(PyData.list ps).depth<=64:=by
  show PyData.depthAll ps+1<=64
  omega
 rw [yaf d,show (PyData.list ps).canLay0=true from f3]
 rfl
def zoB (g:D) (r:D):Option D:=if eqD (zfO r) (.tup [g])=true then some (.str (zav r)) else none
theorem zuP {f:D->R (Option D)} {g:D->Option D} (l:List D) (h:∀ d∈l,f d=.ok (g d)) (hl:l.length<=1000):lcF f l=.ok (l.filterMap g):=by
 have:=zpA (enc:=id) (g:=g) l h hl
 rwa [List.map_id] at this
theorem zzR {ps:List D} {g:D} (gp:∀ p∈ps,zcC p) (gg:zcC g):eqD (.tup ps) (.tup [g])=true↔ps=[g]:=by
 rw [zjZ (zfI λd hd=>zkS (gp d hd)) (zfI λd hd=>by rw [yah.mp hd]; exact zkS gg)]
 exact ⟨λh=>D.tup.inj h,λh=>by rw [h]⟩
theorem zwJ (S:Stok rows) {x:D} (gx:zcC x):lcF (λd_5:D=>R.bind (nUn2 d_5) λp_6 =>
 R.bind (zcJ x) λt_14 =>
 R.bind (nEq false p_6.2 (.tup [t_14])) λt_15 =>
 if t_15=true then (.ok ((some p_6.1)):R (Option D)) else .ok none) rows=.ok (rows.filterMap (zoB (zfT x))):=by
 have few:=S.few
 refine zuP rows (λr hr => ?_) (by omega)
 obtain ⟨n,ps,rfl,hn,_,l4,gp⟩:=S.good r hr
 have gm:=(zpx gx).1
 have s1:Sm 4 (.tup ps):=⟨by omega,λd hd=>(zgG (gp d hd)).mono (by decide)⟩
 have s2:Sm 4 (.tup [zfT x]):=⟨by show 1<=1000; decide,λd hd=>by rw [yah.mp hd]; exact (zgG gm).mono (by decide)⟩
 rw [zcr,zab]
 dsimp only
 rw [zgl gx,zab,zpz false s1 s2 (by decide) (by decide),yaz yax,zab]
 unfold zoB zfO zav
 by_cases c:eqD (.tup ps) (.tup [zfT x])=true
 ·rw [yaw c,yaw c]
 ·rw [yaz c,yaz c]
theorem zsa {g d:D} (S:Stok rows) (h:d∈rows.filterMap (zoB g)):∃ s,d=.str s/\s∈rows.map zav:=by
 obtain ⟨r,hr,e⟩:=List.mem_filterMap.mp h
 unfold zoB at e
 split at e
 ·cases e
  exact ⟨_,rfl,yan.mpr ⟨r,hr,rfl⟩⟩
 ·cases e
theorem zuQ (S:Stok rows) {g:D} (gg:zcC g) (h:OneP rows g):∃ s xs,rows.filterMap (zoB g)=.str s::xs/\s∈rows.map zav:=by
 obtain ⟨n,hr⟩:=h
 have:D.str n∈rows.filterMap (zoB g):=List.mem_filterMap.mpr ⟨_,hr,by
  unfold zoB
  exact yaw ((zzR (ps:=[g]) (λp hp=>by rw [yah.mp hp]; exact gg) gg).mpr rfl)⟩
 cases e:rows.filterMap (zoB g) with
 | nil=>rw [e] at this; exact nomatch this
 | cons d xs =>
   obtain ⟨s,rfl,hs⟩:=zsa (d:=d) S (by rw [e]; exact yaa)
   exact ⟨s,xs,rfl,hs⟩
theorem pickW {F:List (End×D)} (hF:F≠[]) (lF:F.length<=1000) (h:Int):∃ i h' x F1,zaw [.int h] (.int (F.length:Nat))=.ok (.int i,[.int h'])/\nPop (F.map pD) (.int i)=.ok (pD x,F1.map pD)/\F.Perm (x::F1):=by
 have hpos:0<F.length:=List.length_pos_iff.mpr hF
 obtain ⟨i,h1,e1,i0,i1⟩:=zch h (m:=(F.length:Nat)) (by omega) (zjC (by omega))
 have lm:(F.map pD).length=F.length:=yac _
 obtain ⟨d,e2,e3⟩:=zuD (ds:=F.map pD) i0 (by rw [lm]; exact i1) (by rw [lm]; omega)
 rw [yaI] at e2
 obtain ⟨x,hx,rfl⟩:=yaP.mp e2
 rw [zkU] at e3
 exact ⟨i,h1,x,_,e1,e3,ziH hx⟩
theorem zuR {F:List (End×D)} {d:D} (G:∀ x∈F,zcC x.2) (g:zcC d) (hl:F.length<=1000):∃ M:List Nat,zfp (F.map pD) d=.ok (M.map nD,F.map pD)/\(∀ k∈M,k<F.length)/\M.length<=F.length:=by
 have em:=zzI G g hl
 refine ⟨_,?_,λk hk=>yaA.mp (ybk.mp hk).1,by
  have:=ybG (zuG F d) (List.range F.length)
  rwa [yau] at this⟩
 unfold zfp
 have er:nR1 (.int (F.length:Nat))=.ok (rngD 0 F.length):=zwn (zuE (by omega))
 rw [zbw,zab,yac,er,zab,em,zab]
theorem zxN {F:List (End×D)} {M:List Nat} (hM:∀ k∈M,k<F.length) (nM:M≠[]) (lM:M.length<=1000) (lF:F.length<=1000) (h:Int) :
 ∃ u h' k y F2,zaw [.int h] (.int (M.length:Nat))=.ok (.int u,[.int h'])/\nIx (.lst (M.map nD)) (.int u)=.ok (nD k)/\nPop (F.map pD) (nD k)=.ok (pD y,F2.map pD)/\F.Perm (y::F2):=by
 have hpos:0<M.length:=List.length_pos_iff.mpr nM
 obtain ⟨u,h1,e1,u0,u1⟩:=zch h (m:=(M.length:Nat)) (by omega) (zjC (by omega))
 obtain ⟨k,hk⟩:∃ k,M[u.toNat]?=some k:=⟨_,yak (by omega)⟩
 have g2:nIx (.lst (M.map nD)) (.int u)=.ok (nD k):=by
  have:=zuF nD hk
  rw [show nD u.toNat=.int u by show D.int _=_; rw [yb0 u0]] at this
  exact this
 have hk1:=hM k (yaL hk)
 have lm1:(F.map pD).length=F.length:=yac _
 obtain ⟨d,g3,g4⟩:=zuD (ds:=F.map pD) (i:=(k:Int)) (by omega) (by rw [lm1]; omega) (by rw [lm1]; omega)
 rw [yaI] at g3
 obtain ⟨y,hy,rfl⟩:=yaP.mp g3
 rw [zkU] at g4
 exact ⟨u,h1,k,y,_,e1,g2,g4,ziH hy⟩
theorem zxO {ws:List Wire} (hl:ws.length<=1000):∃ ws':List Wire,zdW (.lst (ws.map wD))=.ok (.tup (ws'.map wD))/\ws'.length=ws.length:=by
 have two:∀ w:Wire,∃ v:Wire,R.bind (zdM (wD w)) (λt_1=>zcy (.lst t_1))=.ok (wD v):=λw=>by
  have e:zdM (wD w)=.ok ((([w.1,w.2]:List End).mergeSort (leOf ltE)).map eD):=zt4 [w.1,w.2]
  have l:(([w.1,w.2]:List End).mergeSort (leOf ltE)).length=2:=ybU _
  rw [e,zab,zcZ]
  match ([w.1,w.2]:List End).mergeSort (leOf ltE),l with
  | [a,b],_=>exact ⟨(a,b),rfl⟩
 have e1:lcM (λd_1:D=>R.bind (zdM d_1) λt_1=>zcy (.lst t_1)) (ws.map wD)=.ok (ws.map λw=>wD (Classical.choose (two w))):=zfJ (enc:=wD) (g:=λw=>wD (Classical.choose (two w))) ws (λw _=>Classical.choose_spec (two w)) hl
 have e2:(ws.map λw=>wD (Classical.choose (two w)))=(ws.map λw=>Classical.choose (two w)).map wD:=by rw [yaY]; rfl
 refine ⟨(ws.map λw=>Classical.choose (two w)).mergeSort (leOf ltW),?_,by rw [ybU,yac]⟩
 unfold zdW
 rw [zfl,zab,e1,zab,e2,nSA_l,zt5,zab,zcZ,zab]
theorem zwK (Fl:Full rows) (h:Int) {O:List D} (hO:∀ d∈O,OPt rows d) (lO:O.length<=60) {ss:List Str} (hss:∀ s∈ss,s∈rows.map zav) (ls:ss.length<=20) :
 ∃ (ss':List Str) (ws:List Wire) (h':Int),zfq [.int h] (.tup rows) (.tup O) (.lst (ss.map D.str))=.ok (.tup [.tup O,.tup (ss'.map D.str),.tup (ws.map wD),.tup []],[.int h'])∧(∀ s∈ss',s∈rows.map zav) ∧
   ss'.length<=5*ss.length+O.length/\ws.length<=4*ss.length+O.length:=by
 have few:=Fl.st.few
 have ex:lcM (λd_1:D=>R.bind (nUn2 d_1) λp_1=>R.bind (nNeg (.int 1)) λt_2=>.ok ((.tup [(.tup [t_2,p_1.1]),p_1.2]))) (enF 0 O)=.ok ((zf2 (-1) 0 O).map pD):=zwz (λj d=>by
  rw [zcr,zab,znT,zab]
  rfl) O (by omega)
 have ef:zdO (.tup rows) (.lst (ss.map D.str)) (.lst ([]:List D))=.ok ((zhN rows 0 ss).map pD):=by
  have:=ziI Fl.st (bm:=.lst (ss.map D.str)) (pm:=.lst ([]:List D)) (ps:=[]) rfl rfl ycd hss (by omega) (by show 0<=1000; decide)
  rw [this]
  show R.ok ((ze3 [] _).map pD)=_
  rw [zuO]
 have lb:=zhO Fl.st ss 0 hss
 obtain ⟨F0,hF0⟩:∃ F0,F0=zf2 (-1) 0 O++zhN rows 0 ss:=⟨_,rfl⟩
 have lF0:F0.length<=O.length+4*ss.length:=by rw [hF0,yam,zf3]; omega
 have oF0:∀ x∈F0,OPt rows x.2:=λx hx=>by
  rw [hF0] at hx
  rcases yay.mp hx with hx | hx
  ·obtain ⟨k,_,_,_,e⟩:=zkr hx
   exact hO _ (yaL e)
  ·exact zm4 Fl hss x hx
 have ea:zii (.lst ((zf2 (-1) 0 O).map pD)) (.lst ((zhN rows 0 ss).map pD))=.ok (F0.map pD):=by
  rw [nAddL_of (by rw [yac,yac,zf3]; omega),hF0,yaR]
 obtain ⟨s',⟨h',ss',ws,F,rfl,hss',hF,l1,l2⟩,d,e⟩:=ziG (body:=zdm (.tup rows)) (after:=λ(s_2:List D×List D×List D×List D) =>
  R.bind (zcy (.tup O)) λt_22=>R.bind (zcy (.lst s_2.2.1)) λt_23=>R.bind (zdW (.lst s_2.2.2.1)) λt_24=>.ok ((.tup [t_22,t_23,t_24,(.tup [])]),s_2.1))
  (λs=>∃ (h:Int) (ss':List Str) (ws:List Wire) (F:List (End×D)),s=([.int h],ss'.map D.str,ws.map wD,F.map pD)/\(∀ s∈ss',s∈rows.map zav)/\(∀ x∈F,OPt rows x.2)/\ss'.length+F.length<=5*ss.length+O.length/\ws.length+F.length<=4*ss.length+O.length)
  (λs=>s.2.2.2.length) (λs=>s.2.2.2=[]) (λs ⟨h,ss',ws,F,e,hss',hF,l1,l2⟩=>by
   subst e
   have GF:∀ x∈F,zcC x.2:=λx hx=>(hF x hx).1
   have c:=zxI GF (by omega)
   by_cases hn:F=[]
   ·refine .inl ⟨by rw [hn]; rfl,λK A => ?_⟩
    subst hn
    unfold zdm
    dsimp only
    rw [zdJ c,zab]
    rfl
   ·obtain ⟨i,h1,x,F1,e1,e2,pm⟩:=pickW hn (by omega) h
    have lF:F.length=F1.length+1:=pm.length_eq
    have ox:=hF x (pm.mem_iff.mpr yaa)
    have hF1:∀ y∈F1,OPt rows y.2:=λy hy=>hF y (pm.mem_iff.mpr (yab _ hy))
    obtain ⟨M,e3,hM,lM⟩:=zuR (λy hy=>(hF1 y hy).1) ox.1 (by omega)
    have ne:(!(F.map pD).isEmpty)=true:=by cases F with
     | nil=>exact absurd rfl hn
     | cons _ _=>rfl
    have eu:nUn2 (pD x)=.ok (eD x.1,x.2):=rfl
    obtain ⟨b,h2,e4,hb⟩:∃ (b:Bool) (h2:Int),(if (!(M.map nD).isEmpty)=true then (R.bind (zaw [.int h1] (.int 5)) λt_11=>R.bind (nOrd .gt t_11.1 (.int 0)) λt_12=>.ok ((t_12,t_11.2)):R (Bool×List D)) else .ok ((false,[.int h1])))=.ok (b,[.int h2])/\(b=true->M≠[]):=by
     cases M with
     | nil=>exact ⟨false,h1,rfl,λz=>nomatch z⟩
     | cons m M =>
       obtain ⟨j,h2,f1,_,_⟩:=zch h1 (m:=5) (by decide) (by decide)
       refine ⟨decide (0<j),h2,?_,λ_ z=>nomatch z⟩
       rw [yaw (show (!(List.map nD (m::M)).isEmpty)=true from rfl),f1,zab]
       rfl
    cases b with
    | true =>
      obtain ⟨u,h3,k,y,F2,g1,g2,g3,pm2⟩:=zxN hM (hb rfl) (by omega) (by omega) h2
      have lF1:F1.length=F2.length+1:=pm2.length_eq
      refine .inr ⟨([.int h3],ss'.map D.str,(ws++[(x.1,y.1)]).map wD,F2.map pD),⟨h3,ss',_,F2,rfl,hss',λz hz=>hF1 z (pm2.mem_iff.mpr (yab _ hz)),by omega,by rw [yam]; show ws.length+1+_<=_; omega⟩,by show (F2.map pD).length<(F.map pD).length; rw [yac,yac]; omega,λK A => ?_⟩
      have g5:nIx (pD y) (.int 0)=.ok (eD y.1):=zgT _ _
      unfold zdm
      dsimp only
      rw [zdJ c,zab,yaw ne,zbw,zab,yac,e1,zab]
      dsimp only
      rw [e2,zab]
      dsimp only
      rw [eu,zab]
      dsimp only
      rw [e3,zab]
      dsimp only
      rw [zdJ (zjB M),zab,e4,zab]
      dsimp only
      rw [yaw rfl,zbw,zab,yac,g1,zab]
      dsimp only
      rw [g2,zab,g3,zab]
      dsimp only
      rw [g5,zab,nApp_of (by rw [yac]; omega),zab,yaR]
      rfl
    | false =>
      obtain ⟨s,xs,g1,hs⟩:=zuQ Fl.st (zpx ox.1).1 ox.2.2
      refine .inr ⟨([.int h2],(ss'++[s]).map D.str,(ws++[(x.1,((ss'.length:Int),(0:Int)))]).map wD,F1.map pD),⟨h2,_,_,F1,rfl,λt ht=>by
       rcases yay.mp ht with ht | ht
       ·exact hss' t ht
       ·rw [yah.mp ht]
        exact hs,hF1,by rw [yam]; show ss'.length+1+_<=_; omega,by rw [yam]; show ws.length+1+_<=_; omega⟩,by show (F1.map pD).length<(F.map pD).length; rw [yac,yac]; omega,λK A => ?_⟩
      unfold zdm
      dsimp only
      rw [zdJ c,zab,yaw ne,zbw,zab,yac,e1,zab]
      dsimp only
      rw [e2,zab]
      dsimp only
      rw [eu,zab]
      dsimp only
      rw [e3,zab]
      dsimp only
      rw [zdJ (zjB M),zab,e4,zab]
      dsimp only
      rw [yaz yax,zbw,zab,yac,nApp_of (by rw [yac]; omega),zab,zcY,zab,zwJ Fl.st ox.1,zab,g1,nIx_l0,zab,nApp_of (by rw [yac]; omega),zab,yaR,yaR]
      rfl) most ([.int h],ss.map D.str,([]:List D),F0.map pD) ⟨h,ss,[],F0,rfl,hss,oF0,by omega,by show 0+_<=_; omega⟩ (by
   show (F0.map pD).length<most
   rw [yac]
   have:=zuC
   omega)
 have d:F.map pD=[]:=d
 rw [ycj] at d
 subst d
 rw [yba] at l1 l2
 obtain ⟨ws',ew,lw⟩:=zxO (ws:=ws) (by omega)
 refine ⟨ss',ws',h',?_,hss',by omega,by omega⟩
 unfold zfq
 rw [znV,zab,zpl,zab,ex,zab,ef,zab,ea,zab,e]
 dsimp only
 rw [zrO,zab,zcZ,zab,ew,zab]
end
section
variable {rows:List D}
def OfW (rows:List D) (Es:List End) (d:D):Prop:=∃ e∈Es,∃ s∈rows.map zav,∃ k:Nat,d=.tup [eD e,.str s,.int k]
theorem of_lc {x:D} {e:D} {n:D} (gx:zcC x):∀ (ps:List D) (j:Nat),(∀ q∈ps,zcC q)->∃ xs,lcF' (λd_4:D=>R.bind (nUn2 d_4) λp_4 =>
 R.bind (zcJ x) λt_3 =>
 R.bind (nEq false p_4.2 t_3) λt_4 =>
 if t_4=true then (.ok ((some (.tup [e,n,p_4.1]))):R (Option D)) else .ok none) (enF j ps)=.ok xs/\xs.length<=ps.length/\∀ d∈xs,∃ k:Nat,d=.tup [e,n,.int k]
 | [],_,_=>⟨[],rfl,yaj _,λ_ z=>nomatch z⟩
 | q::ps,j,h=>by
   obtain ⟨xs,e1,l1,h1⟩:=of_lc gx ps (j+1) λy hy=>h y (yab _ hy)
   unfold enF lcF'
   rw [e1,zcr,zab]
   dsimp only
   rw [zgl gx,zab,zzE false (h q yaa) (zpx gx).1,zab,yaz yax]
   by_cases c:eqD q (zfT x)=true
   ·rw [yaw c]
    exact ⟨.tup [e,n,.int (j:Nat)]::xs,rfl,by rw [yaB,yaB]; omega,λd hd=>by
     rcases yap.mp hd with rfl | hd
     ·exact ⟨j,rfl⟩
     ·exact h1 d hd⟩
   ·rw [yaz c]
    exact ⟨xs,rfl,by rw [yaB]; omega,h1⟩
theorem of_b10 (S:Stok rows) {x:End×D} (gx:zcC x.2) {Es:List End} (hx:x.1∈Es) {acc:List D} (la:acc.length<=1000) (ha:∀ d∈acc,OfW rows Es d) :
 ∃ acc',zdn (.tup rows) (pD x) acc=.ok acc'/\acc'.length<=acc.length+32/\∀ d∈acc',OfW rows Es d:=by
 have few:=S.few
 obtain ⟨acc',e,l,h⟩:=zcs (body:=zfE (eD x.1,x.2)) (ds:=rows) (s:=acc) (λk s=>s.length<=acc.length+4*k/\∀ d∈s,OfW rows Es d) 0 ⟨by omega,ha⟩ λj r s hr hs=>by
  obtain ⟨l,h⟩:=hs
  have hrm:=yaL hr
  have hj:=(yal.mp hr).1
  obtain ⟨n,ps,rfl,hn,_,l4,gp⟩:=S.good r hrm
  obtain ⟨xs,e1,l1,h1⟩:=of_lc (e:=eD x.1) (n:=.str n) gx ps 0 gp
  refine ⟨s++xs,?_,by rw [yam]; omega,λd hd => ?_⟩
  ·unfold zfE
   rw [zcr,zab]
   dsimp only
   rw [zpl,zab]
   unfold lcF
   rw [zaz (zdT (by rw [zmU,zf0]; omega)),e1,zab,zmM (by omega),zab]
  ·rcases yay.mp hd with hd | hd
   ·exact h d hd
   ·obtain ⟨k,rfl⟩:=h1 d hd
    exact ⟨x.1,hx,n,yan.mpr ⟨_,hrm,rfl⟩,k,rfl⟩
 have eu:nUn2 (pD x)=.ok (eD x.1,x.2):=rfl
 refine ⟨acc',?_,by omega,h⟩
 unfold zdn
 rw [eu,zab,zcY,zab,e,zab]
theorem of_all (S:Stok rows) {F:List (End×D)} (gF:∀ x∈F,zcC x.2) (lF:F.length<=12):∃ A,R.forS (zdn (.tup rows)) (F.map pD) ([]:List D)=.ok A/\A.length<=32*F.length/\∀ d∈A,OfW rows (F.map (·.1)) d:=by
 obtain ⟨A,e,l,h⟩:=zcs (body:=zdn (.tup rows)) (ds:=F.map pD) (s:=([]:List D)) (λk s=>s.length<=32*k/\∀ d∈s,OfW rows (F.map (·.1)) d) 0 ⟨by rw [yba]; omega,λ_ z=>nomatch z⟩ λj d s hd hs=>by
  obtain ⟨l,h⟩:=hs
  have hj:j<F.length:=by
   have:=(yal.mp hd).1
   rwa [yac] at this
  rw [yaI] at hd
  obtain ⟨x,hx,rfl⟩:=yaP.mp hd
  have hxm:=yaL hx
  obtain ⟨s',e,l',h'⟩:=of_b10 S (gF x hxm) (yan.mpr ⟨x,hxm,rfl⟩) (by omega) h
  exact ⟨s',e,by omega,h'⟩
 rw [yac,ya4] at l
 exact ⟨A,e,l,h⟩
theorem of_sm (S:Stok rows) {Es:List End} {d:D} (h:OfW rows Es d):Sm 3 d:=by
 obtain ⟨e,_,s,hs,k,rfl⟩:=h
 obtain ⟨r,hr,rfl⟩:=yan.mp hs
 obtain ⟨n,ps,rfl,hn,_⟩:=S.good r hr
 refine zkh (by show 3<=1000; decide) λd hd => ?_
 rcases yap.mp hd with rfl | hd
 ·exact (sm_e 0 e).mono (by decide)
 ·rcases yap.mp hd with rfl | hd
  ·exact (zio hn).mono (by decide)
  ·rw [yah.mp hd]
   exact zkq 2 _
theorem zzS (Fl:Full rows) (h:Int) {bm:M} {ss:List Str} {ws:List Wire} (hb:bm.d=.lst (ss.map D.str)) (hss:∀ s∈ss,s∈rows.map zav) (ls:ss.length<=3) (nd:(flat ws).Nodup) (hw:∀ e∈flat ws,e.1<(ss.length:Int)) (lw:ws.length<=10) (d:D) :
 ∃ (h':Int) (bm':M) (ss':List Str) (ws':List Wire),zd0 (.tup rows) d ([.int h],bm,ws.map wD)=.ok ([.int h'],bm',ws'.map wD)/\bm'.d=.lst (ss'.map D.str)/\(∀ s∈ss',s∈rows.map zav)/\ss'.length<=ss.length+1/\(flat ws').Nodup/\(∀ e∈flat ws',e.1<(ss'.length:Int))/\ws'.length<=ws.length+1:=by
 obtain ⟨F,hF⟩:∃ F,F=ze3 (flat ws) (zhN rows 0 ss):=⟨_,rfl⟩
 have ef:zdO (.tup rows) bm (.lst (ws.map wD))=.ok (F.map pD):=by
  rw [hF]
  exact ziI Fl.st (by rw [hb]; rfl) rfl nd hss (by omega) (by omega)
 have lb:=zhO Fl.st ss 0 hss
 have lF:F.length<=4*ss.length:=by
  rw [hF]
  exact ya7 (ybG _ _) lb
 have inF:∀ x∈F,x∈zhN rows 0 ss/\x.1∉flat ws:=λx hx=>by
  rw [hF] at hx
  have:=ybk.mp hx
  exact ⟨this.1,yao this.2⟩
 have gF:∀ x∈F,zcC x.2:=λx hx=>(zm4 Fl hss x (inF x hx).1).1
 obtain ⟨A,ea,lA,hA⟩:=of_all Fl.st gF (by omega)
 have c:canD (.lst A)=true:=zm5 (λd hd=>of_sm Fl.st (hA d hd)) (by decide)
 cases hn:A with
 | nil =>
   refine ⟨h,bm,ss,ws,?_,hb,hss,by omega,nd,hw,by omega⟩
   subst hn
   unfold zd0
   dsimp only
   rw [ef,zab,ea,zab,zdJ c,zab]
   rfl
 | cons a A1 =>
   have hpos:0<A.length:=by rw [hn]; exact Nat.succ_pos _
   have ne:(!A.isEmpty)=true:=by rw [hn]; rfl
   obtain ⟨i,h1,e1,i0,i1⟩:=zch h (m:=(A.length:Nat)) (by omega) (zjC (by omega))
   obtain ⟨y,hy,e2⟩:=zzm (xs:=A) i0 i1
   obtain ⟨e,he,s,hs,k,rfl⟩:=hA y hy
   obtain ⟨x,hx,rfl⟩:=yan.mp he
   obtain ⟨xb,xf⟩:=inF x hx
   obtain ⟨bk,_,_,_,_,hbk,xe,_⟩:=zks xb
   have lt:x.1.1<(ss.length:Int):=by
    rw [xe]
    have:=(yal.mp hbk).1
    show (bk:Int)<_
    omega
   refine ⟨h1,.lst ((ss++[s]).map D.str),ss++[s],ws++[(x.1,((ss.length:Int),(k:Int)))],?_,rfl,λt ht => ?_,by rw [yam]; exact yaj _,?_,λe he => ?_,by rw [yam]; exact yaj _⟩
   ·unfold zd0
    dsimp only
    rw [ef,zab,ea,zab,zdJ c,zab,yaw ne,zbw,zab,e1,zab]
    dsimp only
    rw [e2,zab,zwi,zab,hb,zbw,zab,yac]
    dsimp only
    rw [nApp_of (by rw [yac]; omega),zab,nAddL_of (by rw [yac]; show ss.length+1<=1000; omega),zab,yaR,yaR]
    rfl
   ·rcases yay.mp ht with ht | ht
    ·exact hss t ht
    ·rw [yah.mp ht]
     exact hs
   ·rw [zqT,ybg]
    refine ⟨nd,?_,λa ha b hb z => ?_⟩
    ·show [x.1,((ss.length:Int),(k:Int))].Nodup
     refine ya9.mpr ⟨λz => ?_,ya9.mpr ⟨(λz=>nomatch z),ycd⟩⟩
     have:=yah.mp z
     rw [this] at lt
     exact absurd lt (Int.lt_irrefl _)
    ·have hb:b=x.1\/b=((ss.length:Int),(k:Int)):=by
      rcases yap.mp (show b∈[x.1,((ss.length:Int),(k:Int))] from hb) with hb | hb
      ·exact .inl hb
      ·exact .inr (yah.mp hb)
     subst z
     rcases hb with hb | hb
     ·rw [hb] at ha
      exact xf ha
     ·have:=hw a ha
      rw [hb] at this
      exact absurd this (Int.lt_irrefl _)
   ·rw [yam]
    show e.1<((ss.length+1:Nat):Int)
    rw [zqT] at he
    rcases yay.mp he with he | he
    ·have:=hw e he
     omega
    ·rcases yap.mp (show e∈[x.1,((ss.length:Int),(k:Int))] from he) with he | he
     ·rw [he]
      omega
     ·rw [yah.mp he]
      show (ss.length:Int)<_
      omega
theorem zwL (Fl:Full rows) (h:Int) {s0:Str} (hs0:s0∈rows.map zav) :
 ∃ (O:List D) (ss:List Str) (ws:List Wire) (h':Int),zgg [.int h] (.tup rows) (.lst [.str s0]) (.int 1)=.ok (.tup [.tup O,.tup (ss.map D.str),.tup (ws.map wD),.tup []],[.int h'])/\(∀ d∈O,OPt rows d)/\O.length<=12/\(∀ s∈ss,s∈rows.map zav)/\ss.length<=3/\ws.length<=40:=by
 obtain ⟨m,h1,e1,m0,m1⟩:=zch h (m:=3) (by decide) (by decide)
 obtain ⟨s1,e2,h2,bm,ss,ws,rfl,hb,hss,ls,nd,hw,lw⟩:=zcs (body:=zd0 (.tup rows)) (ds:=rngD 0 m.toNat) (s:=([.int h1],(.fz (.lst [.str s0]):M),([]:List D)))
  (λk s=>∃ (h:Int) (bm:M) (ss:List Str) (ws:List Wire),s=([.int h],bm,ws.map wD)/\bm.d=.lst (ss.map D.str)/\(∀ s∈ss,s∈rows.map zav)/\ss.length<=1+k/\(flat ws).Nodup/\(∀ e∈flat ws,e.1<(ss.length:Int))/\ws.length<=k) 0
  ⟨h1,.fz (.lst [.str s0]),[s0],[],rfl,rfl,λs hs=>by rw [yah.mp hs]; exact hs0,yaj _,ycd,(λ_ z=>nomatch z),yaj _⟩ λj d s hd hs=>by
  obtain ⟨h,bm,ss,ws,rfl,hb,hss,ls,nd,hw,lw⟩:=hs
  obtain ⟨hj,_⟩:=zin hd
  obtain ⟨h',bm',ss',ws',e,hb',hss',ls',nd',hw',lw'⟩:=zzS Fl h hb hss (by omega) nd hw (by omega) d
  exact ⟨_,e,h',bm',ss',ws',rfl,hb',hss',by omega,nd',hw',by omega⟩
 rw [zdN,ya4] at ls lw
 obtain ⟨F0,hF0⟩:∃ F,F=ze3 (flat ws) (zhN rows 0 ss):=⟨_,rfl⟩
 have ef:zdO (.tup rows) bm (.lst (ws.map wD))=.ok (F0.map pD):=by
  rw [hF0]
  exact ziI Fl.st (by rw [hb]; rfl) rfl nd hss (by omega) (by omega)
 have lb:=zhO Fl.st ss 0 hss
 have lF0:F0.length<=12:=by
  rw [hF0]
  exact ya7 (ybG _ _) (by omega)
 have oF0:∀ x∈F0,OPt rows x.2:=λx hx=>by
  rw [hF0] at hx
  exact zm4 Fl hss x (ybk.mp hx).1
 obtain ⟨s',⟨h',ws',F,O,rfl,hF,hO,l1,l2⟩,d,e⟩:=ziG (body:=zdo (.int 1)) (after:=λ(s_8:List D×List D×List D×List D) =>
  R.bind (zcy (.lst s_8.2.2.2)) λt_28=>R.bind (zcy bm.d) λt_29=>R.bind (zdW (.lst s_8.2.1)) λt_30=>.ok ((.tup [t_28,t_29,t_30,(.tup [])]),s_8.1))
  (λs=>∃ (h:Int) (ws:List Wire) (F:List (End×D)) (O:List D),s=([.int h],ws.map wD,F.map pD,O)/\(∀ x∈F,OPt rows x.2)/\(∀ d∈O,OPt rows d)/\O.length+F.length<=12/\ws.length+F.length<=40)
  (λs=>s.2.2.1.length) (λs=>s.2.2.1=[]) (λs ⟨h,ws,F,O,e,hF,hO,l1,l2⟩=>by
   subst e
   have GF:∀ x∈F,zcC x.2:=λx hx=>(hF x hx).1
   have c:=zxI GF (by omega)
   by_cases hn:F=[]
   ·refine .inl ⟨by rw [hn]; rfl,λK A => ?_⟩
    subst hn
    unfold zdo
    dsimp only
    rw [zdJ c,zab]
    rfl
   ·obtain ⟨i,h1,x,F1,e1,e2,pm⟩:=pickW hn (by omega) h
    have lF:F.length=F1.length+1:=pm.length_eq
    have ox:=hF x (pm.mem_iff.mpr yaa)
    have hF1:∀ y∈F1,OPt rows y.2:=λy hy=>hF y (pm.mem_iff.mpr (yab _ hy))
    obtain ⟨M,e3,hM,lM⟩:=zuR (λy hy=>(hF1 y hy).1) ox.1 (by omega)
    have ne:(!(F.map pD).isEmpty)=true:=by cases F with
     | nil=>exact absurd rfl hn
     | cons _ _=>rfl
    have eu:nUn2 (pD x)=.ok (eD x.1,x.2):=rfl
    obtain ⟨b,h2,e4,hb⟩:∃ (b:Bool) (h2:Int),(if (!(M.map nD).isEmpty)=true then (R.bind (zaw [.int h1] (.int 6)) λt_18=>R.bind (nOrd .lt t_18.1 (.int 1)) λt_19=>.ok ((t_19,t_18.2)):R (Bool×List D)) else .ok ((false,[.int h1])))=.ok (b,[.int h2])/\(b=true->M≠[]):=by
     cases M with
     | nil=>exact ⟨false,h1,rfl,λz=>nomatch z⟩
     | cons m M =>
       obtain ⟨j,h2,f1,_,_⟩:=zch h1 (m:=6) (by decide) (by decide)
       refine ⟨decide (j<1),h2,?_,λ_ z=>nomatch z⟩
       rw [yaw (show (!(List.map nD (m::M)).isEmpty)=true from rfl),f1,zab]
       rfl
    cases b with
    | true =>
      obtain ⟨u,h3,k,y,F2,g1,g2,g3,pm2⟩:=zxN hM (hb rfl) (by omega) (by omega) h2
      have lF1:F1.length=F2.length+1:=pm2.length_eq
      refine .inr ⟨([.int h3],(ws++[(x.1,y.1)]).map wD,F2.map pD,O),⟨h3,_,F2,O,rfl,λz hz=>hF1 z (pm2.mem_iff.mpr (yab _ hz)),hO,by omega,by rw [yam]; show ws.length+1+_<=_; omega⟩,by show (F2.map pD).length<(F.map pD).length; rw [yac,yac]; omega,λK A => ?_⟩
      have g5:nIx (pD y) (.int 0)=.ok (eD y.1):=zgT _ _
      unfold zdo
      dsimp only
      rw [zdJ c,zab,yaw ne,zbw,zab,yac,e1,zab]
      dsimp only
      rw [e2,zab]
      dsimp only
      rw [eu,zab]
      dsimp only
      rw [e3,zab]
      dsimp only
      rw [zdJ (zjB M),zab,e4,zab]
      dsimp only
      rw [yaw rfl,zbw,zab,yac,g1,zab]
      dsimp only
      rw [g2,zab,g3,zab]
      dsimp only
      rw [g5,zab,nApp_of (by rw [yac]; omega),zab,yaR]
      rfl
    | false =>
      refine .inr ⟨([.int h2],(ws++[((-1,(O.length:Int)),x.1)]).map wD,F1.map pD,O++[zfT x.2]),⟨h2,_,F1,_,rfl,hF1,λd hd=>by
       rcases yay.mp hd with hd | hd
       ·exact hO d hd
       ·rw [yah.mp hd]
        exact ox.mate,by rw [yam]; show O.length+1+_<=_; omega,by rw [yam]; show ws.length+1+_<=_; omega⟩,by show (F1.map pD).length<(F.map pD).length; rw [yac,yac]; omega,λK A => ?_⟩
      unfold zdo
      dsimp only
      rw [zdJ c,zab,yaw ne,zbw,zab,yac,e1,zab]
      dsimp only
      rw [e2,zab]
      dsimp only
      rw [eu,zab]
      dsimp only
      rw [e3,zab]
      dsimp only
      rw [zdJ (zjB M),zab,e4,zab]
      dsimp only
      rw [yaz yax,znT,zab,zbw,zab,nApp_of (by rw [yac]; omega),zab,zgl ox.1,zab,nApp_of (by omega),zab,yaR]
      rfl) most ([.int h2],ws.map wD,F0.map pD,([]:List D)) ⟨h2,ws,F0,[],rfl,oF0,(λ_ z=>nomatch z),by show 0+_<=_; omega,by omega⟩ (by
   show (F0.map pD).length<most
   rw [yac]
   have:=zuC
   omega)
 have d:F.map pD=[]:=d
 rw [ycj] at d
 subst d
 rw [yba] at l1 l2
 obtain ⟨wq,ew,lq⟩:=zxO (ws:=ws') (by omega)
 refine ⟨O,ss,wq,h',?_,hO,by omega,hss,by omega,by omega⟩
 unfold zgg
 rw [e1,zab]
 dsimp only
 rw [zk7 m0 (by omega),zab,e2,zab]
 dsimp only
 rw [ef,zab,e]
 dsimp only
 rw [zcZ,zab,hb,zcZ,zab,ew,zab]
end
section
variable {rows:List D}
structure NetW (rows:List D) (V:D) (O:List D) (ss:List Str) (ws:List Wire) (rs:List D):Prop where
 eq:V=.tup [.tup O,.tup (ss.map D.str),.tup (ws.map wD),.tup rs]
 op:∀ d∈O,OPt rows d
 lO:O.length<=60
 hss:∀ s∈ss,s∈rows.map zav
 ls:ss.length<=60
 lw:ws.length<=100
 hr:rs=[]\/∃ k:Int,rs=[.tup [.str "n",.int k]]
def NetS35 (rows:List D) (V:D):Prop:=∃ O ss ws rs,NetW rows V O ss ws rs
theorem zxP {rs:List D} (h:rs=[]\/∃ k:Int,rs=[.tup [.str "n",.int k]]):Sm 3 (.tup rs)/\nob (.tup rs)=true:=by
 rcases h with rfl | ⟨k,rfl⟩
 ·exact ⟨⟨ybd _,λ_ z=>nomatch z⟩,rfl⟩
 ·refine ⟨sm_one (n:=2) (sm_two ?_ (zkq 1 k)),rfl⟩
  exact (show Sm 0 (.str "n") from ⟨by decide,by decide +kernel⟩).mono (by decide)
theorem zqX (S:Stok rows) {s:Str} (h:s∈rows.map zav):Sm 0 (.str s):=by
 obtain ⟨r,hr,rfl⟩:=yan.mp h
 obtain ⟨n,ps,rfl,hn,_⟩:=S.good r hr
 exact zio hn
theorem NetS35.sm (S:Stok rows) {V:D} (h:NetS35 rows V):Sm 4 V/\nob V=true:=by
 obtain ⟨O,ss,ws,rs,rfl,op,lO,hss,ls,lw,hr⟩:=h
 have r:=zxP hr
 refine ⟨zkh (by show 4<=1000; decide) λd hd => ?_,zfI λd hd => ?_⟩
 ·simp only [yap,ybb,ycX] at hd
  rcases hd with rfl | rfl | rfl | rfl
  ·exact zkh (by omega) λd hd=>(zgG (op d hd).1).mono (by decide)
  ·refine zkh (by rw [yac]; omega) λd hd => ?_
   obtain ⟨s,hs,rfl⟩:=yan.mp hd
   exact (zqX S (hss s hs)).mono (by decide)
  ·refine zkh (by rw [yac]; omega) λd hd => ?_
   obtain ⟨w,_,rfl⟩:=yan.mp hd
   exact sm_w 0 w
  ·exact r.1
 ·simp only [yap,ybb,ycX] at hd
  rcases hd with rfl | rfl | rfl | rfl
  ·exact zfI λd hd=>zkS (op d hd).1
  ·refine zfI λd hd => ?_
   obtain ⟨s,hs,rfl⟩:=yan.mp hd
   rfl
  ·exact nob_ws ws
  ·exact r.2
theorem zwM (h:Int) (a b c d:D):∃ (rs:List D) (h':Int),zfs [.int h] (.tup [a,b,c,d])=.ok (.fz (.tup [a,b,c,.tup rs]),[.int h'])/\(rs=[]\/∃ k:Int,rs=[.tup [.str "n",.int k]]):=by
 obtain ⟨i,h1,e1,i0,i1⟩:=zch h (m:=9) (by decide) (by decide)
 obtain ⟨j,h2,e2,j0,j1⟩:=zch h1 (m:=4) (by decide) (by decide)
 obtain ⟨v,e3⟩:∃ v:Int,nIx (.lst [(.int 0),(.int 0),(.int 0),.int (1+i)]) (.int j)=.ok (.int v):=by
  obtain ⟨x,hx,e⟩:=zzm (xs:=[(.int 0),(.int 0),(.int 0),.int (1+i)]) j0 (by show j<4; omega)
  simp only [yap,ybb,ycX] at hx
  rcases hx with rfl | rfl | rfl | rfl
  ·exact ⟨0,e⟩
  ·exact ⟨0,e⟩
  ·exact ⟨0,e⟩
  ·exact ⟨1+i,e⟩
 obtain ⟨rs,hrs⟩:∃ rs,rs=cutD [D.tup [.str "n",.int v]] none (some v):=⟨_,rfl⟩
 refine ⟨rs,h2,?_,?_⟩
 ·unfold zfs
  rw [e1,zab]
  dsimp only
  rw [zd9,zab,e2,zab]
  dsimp only
  rw [fz_d,e3,zab,zlC,zab,zze,zab,zlC,zab,ztH,zab,lst_d,zcZ,zab,fz_d,← hrs]
  have e4:cutD [a,b,c,d] none (some 3)=[a,b,c]:=rfl
  rw [e4,nAddT (by show 3+1<=1000; decide),zab]
  rfl
 ·have l:=ztW [D.tup [.str "n",.int v]] none (some v)
  rw [← hrs] at l
  match rs,hrs,l with
  | [],_,_=>exact .inl rfl
  | [x],hrs,_ =>
    have:x∈[D.tup [.str "n",.int v]]:=ztV (lo:=none) (hi:=some v) (by rw [← hrs]; exact yaa)
    rw [yah.mp this]
    exact .inr ⟨v,rfl⟩
theorem zzT {xs:List D} {A:Str->Prop} (h:∀ x∈xs,∃ s,x=D.str s/\A s):∃ ss:List Str,xs=ss.map D.str/\∀ s∈ss,A s:=by
 induction xs with
 | nil=>exact ⟨[],rfl,λ_ z=>nomatch z⟩
 | cons x xs ih =>
   obtain ⟨c,rfl,hc⟩:=h x yaa
   obtain ⟨cs,rfl,hcs⟩:=ih λy hy=>h y (yab _ hy)
   exact ⟨c::cs,rfl,λy hy=>(yap.mp hy).elim (λe=>e▸hc) (hcs y)⟩
theorem zoC (S:Stok rows) (h:Int):∃ (i h':Int) (r:D) (s:Str),zaw [.int h] (.int (rows.length:Nat))=.ok (.int i,[.int h'])/\nIx (.tup rows) (.int i)=.ok r/\nIx r (.int 0)=.ok (.str s)/\s∈rows.map zav:=by
 have few:=S.few
 obtain ⟨i,h1,e1,i0,i1⟩:=zch h (m:=(rows.length:Nat)) (by omega) (zjC (by omega))
 obtain ⟨r,_,hr,e2⟩:=ixt_of (xs:=rows) i0 i1
 obtain ⟨n,ps,rfl,_⟩:=S.good r hr
 exact ⟨i,h1,_,n,e1,e2,zgT _ _,yan.mpr ⟨_,hr,rfl⟩⟩
theorem d_wild (Fl:Full rows) (h:Int):∃ (V W:D) (h':Int),zhY [.int h] (.tup rows)=.ok (.tup [V,W],[.int h'])/\NetS35 rows V/\NetS35 rows W:=by
 obtain ⟨i,h1,r,s0,e1,e2,e3,hs0⟩:=zoC Fl.st h
 obtain ⟨O,ss,ws,h2,e4,hO,lO,hss,ls,lw⟩:=zwL Fl h1 hs0
 obtain ⟨m,h3,e5,m0,m1⟩:=zch h2 (m:=3) (by decide) (by decide)
 obtain ⟨xs,s,e6,xl,hx,h4,rfl⟩:=ztM (f:=λ(d_2:D) (s:List D)=>R.bind (nLen (.tup rows)) λt_11=>R.bind (zaw s t_11) λt_12=>R.bind (nIx (.tup rows) t_12.1) λt_13=>R.bind (nIx t_13 (.int 0)) λt_14=>.ok ((t_14,t_12.2)))
  (λs=>∃ h:Int,s=[.int h]) (λx=>∃ s,x=D.str s/\s∈rows.map zav) (ds:=rngD 0 m.toNat) (s:=[.int h3]) (by rw [zdN]; exact ze9 (by omega)) ⟨h3,rfl⟩ λd _ s hs=>by
   obtain ⟨g,rfl⟩:=hs
   obtain ⟨i,g',r,s,f1,f2,f3,hs⟩:=zoC Fl.st g
   refine ⟨.str s,[.int g'],?_,⟨s,rfl,hs⟩,g',rfl⟩
   rw [zdg,zab,f1,zab]
   dsimp only
   rw [f2,zab,f3,zab]
 rw [zdg] at e6
 obtain ⟨ss2,rfl,hss2⟩:=zzT hx
 rw [zdN,yac] at xl
 obtain ⟨ss3,ws3,h5,e7,hss3,l3,lw3⟩:=zwK Fl h4 hO (by omega) hss2 (by omega)
 obtain ⟨rs,h6,e8,hrs⟩:=zwM h5 (.tup O) (.tup (ss3.map D.str)) (.tup (ws3.map wD)) (.tup [])
 refine ⟨_,_,h6,?_,⟨O,ss,ws,[],rfl,hO,by omega,hss,by omega,by omega,.inl rfl⟩,⟨O,ss3,ws3,rs,rfl,hO,by omega,hss3,by omega,by omega,hrs⟩⟩
 unfold zhY
 rw [zdg,zab,e1,zab]
 dsimp only
 rw [e2,zab,e3,zab,e4,zab]
 dsimp only
 rw [e5,zab]
 dsimp only
 rw [zk7 m0 (by omega),zab,e6,zab]
 dsimp only
 rw [zgT,zab,e7,zab]
 dsimp only
 rw [e8,zab]
 rfl
theorem zqY (neg:Bool) (i:Int) (l:List Int):∃ b,nIn neg (.int i) (.lst (l.map D.int))=.ok b:=by
 have:∀ l:List Int,∃ vs,zeC (l.map D.int)=some vs:=λl=>by
  induction l with
  | nil=>exact ⟨[],rfl⟩
  | cons x l ih =>
    obtain ⟨vs,e⟩:=ih
    refine ⟨.int x::vs,?_⟩
    rw [yaH]
    unfold zeC
    rw [e]
    rfl
 obtain ⟨vs,e⟩:=this l
 refine ⟨xorB neg (inV (.int i) vs),?_⟩
 show nInS neg (.int i) (l.map D.int)=_
 unfold nInS
 rw [e]
 rfl
theorem zpB {σ β:Type} {body:D->σ->(σ->R β)->R β} (I:Nat->σ->Prop):∀ (ds:List D) (n:Nat) (s:σ),I n s->(∀ d∈ds,∀ k s,k<n+ds.length->I k s->(∃ r,∀ K,body d s K=.ok r)\/∃ s',I (k+1) s'/\∀ K,body d s K=K s') ->
 (∃ r,∀ after,R.forN body after ds s=.ok r)\/∃ s',I (n+ds.length) s'/\∀ after,R.forN body after ds s=after s'
 | [],n,s,hi,_=>.inr ⟨s,hi,λ_=>rfl⟩
 | d::ds,n,s,hi,h=>by
   rcases h d yaa n s (by rw [yaB]; omega) hi with ⟨r,e⟩ | ⟨s',hi',e⟩
   ·exact .inl ⟨r,λafter=>e _⟩
   ·rcases zpB I ds (n+1) s' hi' λx hx k s hk=>h x (yab _ hx) k s (by rw [yaB]; omega) with ⟨r,e2⟩ | ⟨s2,h2,e2⟩
    ·exact .inl ⟨r,λafter=>(e _).trans (e2 after)⟩
    ·exact .inr ⟨s2,by rw [yaB,show n+(ds.length+1)=n+1+ds.length by omega]; exact h2,λafter=>(e _).trans (e2 after)⟩
theorem pat_b4 (w:Wire) (l:List Int) (ll:l.length<=100000):(∃ r,∀ K,zbg (wD w) (l.map D.int) K=.ok r)\/∃ l':List Int,l'.length<=l.length+1/\∀ K,zbg (wD w) (l.map D.int) K=K (l'.map D.int):=by
 have eu:nUn2 (wD w)=.ok (eD w.1,eD w.2):=rfl
 have i1:nIx (eD w.1) (.int 0)=.ok (.int w.1.1):=zgT _ _
 have i2:nIx (eD w.2) (.int 0)=.ok (.int w.2.1):=zgT _ _
 obtain ⟨b1,m1⟩:=zqY false w.1.1 l
 obtain ⟨b2,m2⟩:=zqY false w.2.1 l
 obtain ⟨b3,m3⟩:∃ b,nEq true (.bl b1) (.bl b2)=.ok b:=by cases b1<;>cases b2<;>exact ⟨_,rfl⟩
 obtain ⟨c3,e3⟩:∃ c,andB (decide (w.1.1=-1)) (R.bind (nIx (eD w.2) (.int 0)) λt_12=>R.bind (nNeg (.int 1)) λt_13=>nEq false t_12 t_13)=.ok c:=by
  rw [i2,zab,znT,zab,znW,zmr]
  exact ⟨_,rfl⟩
 obtain ⟨c4,e4⟩:∃ c,andB (!decide (w.1.1=-1)) (R.bind (nIx (eD w.1) (.int 0)) λt_18=>R.bind (nIn false t_18 (.lst (l.map D.int))) λt_19=>R.bind (nIx (eD w.2) (.int 0)) λt_20=>R.bind (nIn false t_20 (.lst (l.map D.int))) λt_21=>nEq true (.bl t_19) (.bl t_21))=.ok c:=by
  rw [i1,zab,m1,zab,i2,zab,m2,zab,m3,zmr]
  exact ⟨_,rfl⟩
 have start:∀ K,zbg (wD w) (l.map D.int) K=if c3=true then .ok false else if c4=true then
  R.bind (nIx (eD w.2) (.int 0)) λt_23 =>
  R.bind (nIn false t_23 (.lst (l.map D.int))) λt_24 =>
  R.bind (if t_24=true then (nIx (eD w.1) (.int 0):R (D)) else nIx (eD w.2) (.int 0)) λt_27 =>
  R.bind (nApp (l.map D.int) t_27) λmet_1=>K met_1
  else K (l.map D.int):=λK=>by
  unfold zbg
  rw [eu,zab]
  dsimp only
  rw [i1,zab,znT,zab,znW,zab]
  rw [znT] at e3
  rw [e3,zab]
  by_cases c:c3=true
  ·rw [yaw c,yaw c]
  ·rw [yaz c,yaz c,zab,zab,zwj,zab]
   rw [i1] at e4
   rw [e4,zab]
 by_cases c:c3=true
 ·exact .inl ⟨false,λK=>by rw [start,yaw c]⟩
 ·by_cases cc:c4=true
  ·cases b2 with
   | true =>
     refine .inr ⟨l++[w.1.1],by rw [yam]; exact yaj _,λK => ?_⟩
     rw [start,yaz c,yaw cc,i2,zab,m2,zab,yaw rfl,i1,zab,nApp_of (by rw [yac]; omega),zab,yaR]
     rfl
   | false =>
     refine .inr ⟨l++[w.2.1],by rw [yam]; exact yaj _,λK => ?_⟩
     rw [start,yaz c,yaw cc,i2,zab,m2,zab,yaz yax,zab,nApp_of (by rw [yac]; omega),zab,yaR]
     rfl
  ·exact .inr ⟨l,by omega,λK=>by rw [start,yaz c,yaz cc]⟩
theorem pat_b1 {O ss rs:List D} {ws:List Wire} (lw:ws.length<=100) (d:D) (l:List Int) (ll:l.length<=10000):(∃ r,∀ K,zbD (.tup [.tup O,.tup ss,.tup (ws.map wD),.tup rs]) d (l.map D.int) K=.ok r)\/∃ l':List Int,l'.length<=l.length+100/\∀ K,zbD (.tup [.tup O,.tup ss,.tup (ws.map wD),.tup rs]) d (l.map D.int) K=K (l'.map D.int):=by
 have st:∀ K,zbD (.tup [.tup O,.tup ss,.tup (ws.map wD),.tup rs]) d (l.map D.int) K=R.forN zbg (λs=>K s) (ws.map wD) (l.map D.int):=λK=>by
  unfold zbD
  rw [nIx_t2,zab,zcY,zab]
 rcases zpB (body:=zbg) (λn s=>∃ l':List Int,s=l'.map D.int/\l'.length<=l.length+n) (ws.map wD) 0 (l.map D.int) ⟨l,rfl,by omega⟩ (λd hd n s hn hs=>by
  obtain ⟨l',rfl,l1⟩:=hs
  obtain ⟨w,_,rfl⟩:=yan.mp hd
  rw [yac] at hn
  rcases pat_b4 w l' (by omega) with h | ⟨l2,h2,e⟩
  ·exact .inl h
  ·exact .inr ⟨_,⟨l2,rfl,by omega⟩,e⟩) with ⟨r,e⟩ | ⟨s',⟨l',rfl,l1⟩,e⟩
 ·exact .inl ⟨r,λK=>by rw [st,e]⟩
 ·exact .inr ⟨l',by rw [yac] at l1; omega,λK=>by rw [st,e]⟩
theorem zpC (S:Stok rows) {V:D} (h:NetS35 rows V):∃ b,zc6 V=.ok b:=by
 obtain ⟨O,ss,ws,rs,rfl,op,lO,hss,ls,lw,hr⟩:=h
 obtain ⟨c1,e1⟩:∃ b,andB (decide ((1:Int)<=((ss.map D.str).length:Nat))) (nOrd .le (.int ((ss.map D.str).length:Nat)) (.int 3))=.ok b:=by
  rw [zf1,zmr]
  exact ⟨_,rfl⟩
 obtain ⟨b2,e2⟩:∃ b,nEq true (.tup rs) (.tup [])=.ok b:=⟨_,zpz (n:=3) (m:=3) true (zxP hr).1 ⟨ybd _,λ_ z=>nomatch z⟩ (by decide) (by decide)⟩
 unfold zc6
 rw [zgU,zab,zdg,zab,zf1,zab,od_le,e1,zab,nIx_t3,zab,e2,zgR,zab]
 by_cases c:(!c1||b2)=true
 ·rw [yaw c]
  exact ⟨_,rfl⟩
 ·rw [yaz c,zab,zcY,zab]
  rcases zpB (body:=zbD (.tup [.tup O,.tup (ss.map D.str),.tup (ws.map wD),.tup rs])) (λn s=>∃ l':List Int,s=l'.map D.int/\l'.length<=1+100*n) (ss.map D.str) 0 [.int 0] ⟨[0],rfl,by show 1<=_; omega⟩ (λd hd n s hn hs=>by
   obtain ⟨l',rfl,l1⟩:=hs
   rw [yac] at hn
   rcases pat_b1 (O:=O) (ss:=ss.map D.str) (rs:=rs) lw d l' (by omega) with h | ⟨l2,h2,e⟩
   ·exact .inl h
   ·exact .inr ⟨_,⟨l2,rfl,by omega⟩,e⟩) with ⟨r,e⟩ | ⟨s',⟨l',rfl,l1⟩,e⟩
  ·exact ⟨r,e _⟩
  ·rw [e,zbw,zab,zab,zdg,zab,znW,zab]
   exact ⟨_,rfl⟩
def zkY (rows:List D) (d:D):Prop:=∃ V W,d=.tup [V,W]/\NetS35 rows V/\NetS35 rows W
theorem zoD (Fl:Full rows) (h:Int) (about:Bool):∃ (rs:List D) (h':Int),zdI [.int h] (.tup rows) (.int 7) (.bl about)=.ok (rs,[.int h'])/\rs.length<=12/\∀ d∈rs,zkY rows d:=by
 obtain ⟨m,h1,e1,m0,m1⟩:=zch h (m:=7) (by decide) (by decide)
 obtain ⟨s,e2,h2,rs,rfl,lr,hrs⟩:=zcs (body:=zen (.tup rows) (.bl about)) (ds:=rngD 0 m.toNat) (s:=([.int h1],([]:List D))) (λk s=>∃ (h:Int) (rs:List D),s=([.int h],rs)/\rs.length<=2*k/\∀ d∈rs,zkY rows d) 0 ⟨h1,[],rfl,yaj _,λ_ z=>nomatch z⟩ λj d s hd hs=>by
  obtain ⟨h,rs,rfl,lr,hrs⟩:=hs
  obtain ⟨hj,_⟩:=zin hd
  obtain ⟨V,W,h2,e3,nV,nW⟩:=d_wild Fl h
  obtain ⟨b,e4⟩:=zpC Fl.st nW
  obtain ⟨c,h3,e5⟩:∃ (c:Bool) (h3:Int),(if about=true then (R.bind (zc6 W) λt_4=>R.bind (if t_4=true then (R.bind (zaw [.int h2] (.int 2)) λt_5=>R.bind (nEq false t_5.1 (.int 0)) λt_6=>.ok ((t_6,t_5.2)):R (Bool×List D)) else .ok ((false,[.int h2]))) λc_1=>.ok ((c_1.1,c_1.2)):R (Bool×List D)) else .ok ((false,[.int h2])))=.ok (c,[.int h3]):=by
   cases about with
   | false=>exact ⟨false,h2,rfl⟩
   | true =>
     rw [yaw rfl,e4,zab]
     cases b with
     | false=>exact ⟨false,h2,rfl⟩
     | true =>
       obtain ⟨i,h3,f1,_,_⟩:=zch h2 (m:=2) (by decide) (by decide)
       refine ⟨decide (i=0),h3,?_⟩
       rw [yaw rfl,f1,zab]
       dsimp only
       rw [znW,zab,zab]
  have st:zen (.tup rows) (.bl about) d ([.int h],rs)=if c=true then .ok ([.int h3],rs++[.tup [V,W]]++[.tup [W,V]]) else .ok ([.int h3],rs++[.tup [V,W]]):=by
   unfold zen
   dsimp only
   rw [e3,zab]
   dsimp only
   rw [zcr,zab]
   dsimp only
   rw [nApp_of (by omega),zab,zzg,zab,e5,zab]
   dsimp only
   by_cases cc:c=true
   ·rw [yaw cc,yaw cc,nApp_of (by rw [yam]; show rs.length+1<_; omega),zab]
   ·rw [yaz cc,yaz cc]
  have r1:∀ d∈rs++[.tup [V,W]],zkY rows d:=λd hd=>by
   rcases yay.mp hd with hd | hd
   ·exact hrs d hd
   ·exact ⟨V,W,yah.mp hd,nV,nW⟩
  by_cases cc:c=true
  ·refine ⟨_,by rw [st,yaw cc],h3,_,rfl,by rw [yam,yam]; show rs.length+1+1<=_; omega,λd hd => ?_⟩
   rcases yay.mp hd with hd | hd
   ·exact r1 d hd
   ·exact ⟨W,V,yah.mp hd,nW,nV⟩
  ·exact ⟨_,by rw [st,yaz cc],h3,_,rfl,by rw [yam]; show rs.length+1<=_; omega,r1⟩
 rw [zdN] at lr
 refine ⟨rs,h2,?_,by omega,hrs⟩
 unfold zdI
 rw [e1,zab]
 dsimp only
 rw [zk7 m0 (by omega),zab,e2,zab]
end
end VW
namespace VW.SX
def sm:Nat->(Nat->Int)->Int
 | 0,_=>0
 | n+1,f=>sm n f+f n
theorem zaQ {f g:Nat->Int}:∀ {n:Nat},(∀ i,i<n->f i=g i)->sm n f=sm n g
 | 0,_=>rfl
 | n+1,h=>by
   unfold sm
   rw [zaQ λi hi=>h i (by omega),h n (by omega)]
theorem zeP {f:Nat->Int}:∀ {n:Nat},(∀ i,i<n->f i=0)->sm n f=0
 | 0,_=>rfl
 | n+1,h=>by
   unfold sm
   rw [zeP λi hi=>h i (by omega),h n (by omega)]
   rfl
theorem zuS (f g:Nat->Int):∀ n:Nat,sm n (λi=>f i+g i)=sm n f+sm n g
 | 0=>rfl
 | n+1=>by
   unfold sm
   rw [zuS f g n]
   show sm n f+sm n g+(f n+g n)=_
   omega
theorem zc8 (c:Int) (f:Nat->Int):∀ n:Nat,sm n (λi=>c*f i)=c*sm n f
 | 0=>(yaN c).symm
 | n+1=>by
   unfold sm
   rw [zc8 c f n,Int.mul_add]
theorem zqZ (f g:Nat->Int):∀ n:Nat,sm n (λi=>f i-g i)=sm n f-sm n g
 | 0=>rfl
 | n+1=>by
   unfold sm
   rw [zqZ f g n]
   show sm n f-sm n g+(f n-g n)=_
   omega
theorem sm_one {f:Nat->Int} {k:Nat}:∀ {n:Nat},k<n->(∀ i,i<n->i≠k->f i=0)->sm n f=f k
 | 0,h,_=>absurd h (ya0 _)
 | n+1,h,z=>by
   unfold sm
   by_cases e:k=n
   ·rw [zeP λi hi=>z i (by omega) (by omega),e,ybO]
   ·rw [sm_one (k:=k) (by omega) λi hi=>z i (by omega),z n (by omega) (by omega),ycP]
theorem ziJ (f:Nat->Nat->Int) (m:Nat):∀ n:Nat,sm n (λi=>sm m (f i))=sm m (λj=>sm n λi=>f i j)
 | 0=>(zeP λ_ _=>rfl).symm
 | n+1=>by
   show sm n _+sm m (f n)=sm m (λj=>sm n (λi=>f i j)+f n j)
   rw [zuS,ziJ f m n]
theorem zxQ {f:Nat->Int}:∀ {n:Nat},sm n f<0->∃ i,i<n/\f i<0
 | 0,h=>absurd (show (0:Int)<0 from h) (by decide)
 | n+1,h=>by
   unfold sm at h
   by_cases z:f n<0
   ·exact ⟨n,by omega,z⟩
   ·obtain ⟨i,hi,hf⟩:=zxQ (f:=f) (n:=n) (by omega)
    exact ⟨i,by omega,hf⟩
theorem zuT {f:Nat->Int} {B:Nat}:∀ {n:Nat},(∀ i,i<n->(f i).natAbs<=B)->(sm n f).natAbs<=n*B
 | 0,_=>by simp [sm]
 | n+1,h=>by
   unfold sm
   have h1:=zuT (f:=f) (B:=B) (n:=n) λi hi=>h i (by omega)
   have h2:=h n (by omega)
   have h3:=Int.natAbs_add_le (sm n f) (f n)
   rw [Nat.succ_mul]
   omega
theorem zm6 (f:Nat->Int):∀ n:Nat,sm (n+1) f=f 0+sm n λi=>f (i+1)
 | 0=>by
   show 0+f 0=f 0+0
   omega
 | n+1=>by
   have:=zm6 f n
   show sm (n+1) f+f (n+1)=f 0+(sm n (λi=>f (i+1))+f (n+1))
   omega
theorem zm7 (f:Nat->Int) (n:Nat):∀ k:Nat,sm (n+k) f=sm n f+sm k λi=>f (n+i)
 | 0=>by
   show sm n f=sm n f+0
   omega
 | k+1=>by
   have:=zm7 f n k
   show sm (n+k) f+f (n+k)=sm n f+(sm k (λi=>f (n+i))+f (n+k))
   omega
theorem zdr {a b:Int} {A B:Nat} (h:a.natAbs<=A) (g:b.natAbs<=B):(a*b).natAbs<=A*B:=by
 rw [ycu]
 exact ybq h g
def gB (n:Nat):Nat->Nat->Nat
 | 0,_=>1
 | k+1,B=>(n+1)*(B+1)*gB n k (2*(B*B))
theorem zuU (n:Nat):∀ (k:Nat) {B C:Nat},B<=C->gB n k B<=gB n k C
 | 0,_,_,_=>yaj _
 | k+1,B,C,h=>ybq (ybq (yaj _) (by omega)) (zuU n k (ybq (yaj _) (ybq h h)))
theorem zxR (n:Nat):∀ (k B:Nat),1<=gB n k B
 | 0,_=>yaj _
 | k+1,B=>Nat.mul_pos (Nat.mul_pos (by omega) (by omega)) (zxR n k _)
theorem zuV (M:Nat):∀ (n:Nat) (vs:List (Nat->Int)) (B:Nat),n<=M->vs.length<n->(∀ v∈vs,∀ i,i<n->(v i).natAbs<=B) ->
 ∃ z:Nat->Int,(∃ i,i<n/\z i≠0)/\(∀ i,(z i).natAbs<=gB M vs.length B)/\∀ v∈vs,sm n (λi=>v i*z i)=0
 | 0,vs,B,_,h,_=>absurd h (ya0 _)
 | n+1,vs,B,hM,h,hb=>by
   by_cases z:∀ v∈vs,v 0=0
   ·refine ⟨λi=>if i=0 then 1 else 0,⟨0,by omega,by decide⟩,λi => ?_,λv hv => ?_⟩
    ·have:=zxR M vs.length B
     dsimp only
     split
     ·show 1<=_
      exact this
     ·show 0<=_
      omega
    ·rw [zm6]
     show v 0*1+_=_
     rw [z v hv,zeP λi _ => ?_]
     ·rfl
     ·show v (i+1)*(if i+1=0 then 1 else 0)=0
      rw [yaz (by omega),yaN]
   ·obtain ⟨b,hbm,hb0⟩:∃ b∈vs,b 0≠0:=by
     refine yaJ λq=>z λv hv => ?_
     exact yaJ λe=>q ⟨v,hv,e⟩
    obtain ⟨l1,l2,rfl⟩:=List.append_of_mem hbm
    let ws:=(l1++l2).map λ(c:Nat->Int)=>λi=>b 0*c (i+1)-c 0*b (i+1)
    have hl:ws.length=l1.length+l2.length:=by rw [yac,yam]
    have hl':(l1++b::l2).length=l1.length+l2.length+1:=by rw [yam,yaB]; omega
    have hm:∀ c∈l1++l2,c∈l1++b::l2:=λc hc=>by
     rcases yay.mp hc with q | q
     ·exact yai _ q
     ·exact yag _ (yab _ q)
    obtain ⟨z',⟨i0,hi0,hz0⟩,hz1,hz2⟩:=zuV M n ws (2*(B*B)) (by omega) (by omega) λv hv i hi=>by
     obtain ⟨c,hc,rfl⟩:=yan.mp hv
     have h1:=hb c (hm c hc)
     have h2:=hb b hbm
     have e1:=zdr (h2 0 (by omega)) (h1 (i+1) (by omega))
     have e2:=zdr (h1 0 (by omega)) (h2 (i+1) (by omega))
     have e3:(b 0*c (i+1)-c 0*b (i+1)).natAbs<=(b 0*c (i+1)).natAbs+(c 0*b (i+1)).natAbs:=by omega
     show (b 0*c (i+1)-c 0*b (i+1)).natAbs<=_
     omega
    let zz:Nat->Int:=λi=>match i with
     | 0=>0-sm n λi=>b (i+1)*z' i
     | i+1=>b 0*z' i
    have hg:gB M (l1++b::l2).length B=(M+1)*(B+1)*gB M ws.length (2*(B*B)):=by
     rw [hl',hl]
     rfl
    refine ⟨zz,⟨i0+1,by omega,Int.mul_ne_zero hb0 hz0⟩,λi => ?_,λv hv => ?_⟩
    ·rw [hg]
     cases i with
     | zero =>
       have e1:(sm n λi=>b (i+1)*z' i).natAbs<=n*(B*gB M ws.length (2*(B*B))):=zuT λi hi=>zdr (hb b hbm (i+1) (by omega)) (hz1 i)
       show (0-sm n λi=>b (i+1)*z' i).natAbs<=_
       have e2:(0-sm n λi=>b (i+1)*z' i).natAbs=(sm n λi=>b (i+1)*z' i).natAbs:=by omega
       rw [e2]
       refine ya7 e1 ?_
       rw [Nat.mul_assoc]
       exact ybq (by omega) (ybq (by omega) (yaj _))
     | succ i =>
       have e1:=zdr (hb b hbm 0 (by omega)) (hz1 i)
       refine ya7 e1 ?_
       rw [Nat.mul_assoc]
       refine ya7 (ybq (ycS B) (yaj _)) ?_
       exact ybE _ (by omega)
    ·rw [zm6]
     have e0:(sm n λi=>v (i+1)*zz (i+1))=b 0*sm n λi=>v (i+1)*z' i:=by
      rw [← zc8]
      exact zaQ λi _=>by
       show v (i+1)*(b 0*z' i)=b 0*(v (i+1)*z' i)
       rw [Int.mul_left_comm]
     show v 0*(0-sm n λi=>b (i+1)*z' i)+_=0
     rw [e0]
     have key:v=b\/v∈l1++l2:=by
      rcases yay.mp hv with q | q
      ·exact .inr (yai _ q)
      ·rcases yap.mp q with q | q
       ·exact .inl q
       ·exact .inr (yag _ q)
     rcases key with rfl | q
     ·rw [ycT,yaN]
      omega
     ·have e1:=hz2 _ (yan.mpr ⟨v,q,rfl⟩)
      have e2:sm n (λi=>(b 0*v (i+1)-v 0*b (i+1))*z' i)=b 0*sm n (λi=>v (i+1)*z' i)-v 0*sm n λi=>b (i+1)*z' i:=by
       rw [← zc8,← zc8,← zqZ]
       exact zaQ λi _=>by
        rw [Int.sub_mul,ya1,ya1]
      rw [e2] at e1
      rw [ycT,yaN]
      omega
end VW.SX
namespace VW.SX
structure Bas (n K:Nat) (R:Nat->Nat->Int) (B:Nat):Prop where
 n1:1<=n
 unit:∀ k,k<K->∀ i,i<K->R k (n+i)=if i=k then 1 else 0
 g1:∀ j,j<n->R K j=1
 g0:∀ i,i<K->R K (n+i)=0
 bd:∀ k,k<=K->∀ j,j<n+K->(R k j).natAbs<=B
def dt (K:Nat) (R:Nat->Nat->Int) (w:Nat->Int) (j:Nat):Int:=sm (K+1) λk=>w k*R k j
structure Tab (n K:Nat) (R:Nat->Nat->Int) (T:Nat->Nat->Int) (o:Nat->Nat) (Y:Nat->Nat->Int):Prop where
 comb:∀ i,i<=K->∀ j,j<n+K->T i j=dt K R (Y i) j
 yl:∀ i,i<K->Y i K=0
 yg:0<Y K K
 om:∀ i,i<K->o i<n+K
 pos:∀ i,i<K->0<T i (o i)
 zer:∀ i,i<K->∀ i',i'<=K->i'≠i->T i' (o i)=0
 ns:∀ w:Nat->Int,w K=0->(∀ i,i<K->dt K R w (o i)=0)->∀ k,k<K->w k=0
 prim:∀ i,i<=K->∀ d:Int,0<d->(∀ j,j<n+K->d ∣ T i j)->d=1
section
variable {n K B:Nat} {R T T':Nat->Nat->Int} {o o':Nat->Nat} {Y:Nat->Nat->Int}
theorem zoE (a b:Int) (w v:Nat->Int) (j:Nat):dt K R (λk=>a*w k-b*v k) j=a*dt K R w j-b*dt K R v j:=by
 unfold dt
 rw [← zc8,← zc8,← zqZ]
 exact zaQ λk _=>by rw [Int.sub_mul,ya1,ya1]
theorem zm8 (b:Bas n K R B) (w:Nat->Int) {i:Nat} (hi:i<K):dt K R w (n+i)=w i:=by
 unfold dt
 rw [sm_one (k:=i) (by omega)]
 ·rw [b.unit i hi i hi,yaw rfl,ycU]
 ·intro k hk ne
  by_cases e:k=K
  ·rw [e,b.g0 i hi,yaN]
  ·rw [b.unit k (by omega) i hi,yaz (λz=>ne z.symm),yaN]
theorem zjD (w:Nat->Int) (j:Nat):dt K R w j=sm K (λk=>w k*R k j)+w K*R K j:=rfl
theorem Tab.slack (b:Bas n K R B) (t:Tab n K R T o Y) {i k:Nat} (hi:i<=K) (hk:k<K):T i (n+k)=Y i k:=by
 rw [t.comb i hi _ (by omega),zm8 b _ hk]
theorem Tab.col (t:Tab n K R T o Y) {i i':Nat} (hi:i<K) (hi':i'<=K):dt K R (Y i') (o i)=T i' (o i):=(t.comb i' hi' _ (t.om i hi)).symm
theorem zpD {p q y:Int} (h:Int.gcd p q=1) (d:p ∣ q*y):p ∣ y:=by
 have d':p.natAbs ∣ q.natAbs*y.natAbs:=by
  rw [← ycu]
  exact Int.natAbs_dvd_natAbs.mpr d
 have c:Nat.Coprime p.natAbs q.natAbs:=h
 exact Int.natAbs_dvd_natAbs.mp (c.dvd_of_dvd_mul_left d')
theorem zlW {N:Nat} {p q:Int} {y z:Nat->Int} (hp:0<p) (e:∀ k,k<N->p*z k=q*y k) (nz:∃ k,k<N/\z k≠0) (pr:∀ d:Int,0<d->(∀ k,k<N->d ∣ y k)->d=1) {k:Nat} (hk:k<N):(y k).natAbs<=(z k).natAbs:=by
 have g0:0<Int.gcd p q:=Int.gcd_pos_of_ne_zero_left q (by omega)
 obtain ⟨p',ep⟩:=Int.gcd_dvd_left (a:=p) (b:=q)
 obtain ⟨q',eq⟩:=Int.gcd_dvd_right (a:=p) (b:=q)
 have gi:(0:Int)<(Int.gcd p q:Int):=by omega
 have cop:Int.gcd p' q'=1:=by
  have z:=Int.gcd_mul_left (Int.gcd p q:Int) p' q'
  rw [← ep,← eq] at z
  have z2:Int.gcd p q=Int.gcd p q*Int.gcd p' q':=by
   have z3:((Int.gcd p q:Nat):Int).natAbs=Int.gcd p q:=Int.natAbs_natCast _
   rw [z3] at z
   exact z
  have z4:Int.gcd p q*1=Int.gcd p q*Int.gcd p' q':=by rw [Nat.mul_one]; exact z2
  exact (Nat.eq_of_mul_eq_mul_left g0 z4).symm
 have p0:0<p':=by
  refine yaJ λc => ?_
  have:(Int.gcd p q:Int)*p'<=0:=ybp (ycq gi) (Int.not_lt.mp c)
  rw [← ep] at this
  omega
 have e2:∀ k,k<N->p'*z k=q'*y k:=λk hk=>by
  have key:∀ g:Int,0<g->p=g*p'->q=g*q'->p'*z k=q'*y k:=λg hg e1 e3=>by
   have h:=e k hk
   rw [e1,e3,ya1,ya1] at h
   exact ycv (by omega) h
  exact key _ gi ep eq
 have p1:p'=1:=pr p' p0 λk hk=>zpD cop ⟨z k,(e2 k hk).symm⟩
 subst p1
 obtain ⟨k0,hk0,hz0⟩:=nz
 have q0:q'≠0:=λc=>by
  have:=e2 k0 hk0
  rw [c,ya6,ycc] at this
  exact hz0 this
 have h:=e2 k hk
 rw [ycc] at h
 rw [h,ycu]
 exact ybE _ (by omega)
theorem zxS {d:Int} {f:Nat->Int}:∀ {n:Nat},(∀ i,i<n->d ∣ f i)->d ∣ sm n f
 | 0,_=>Int.dvd_zero d
 | n+1,h=>Int.dvd_add (zxS λi hi=>h i (by omega)) (h n (by omega))
theorem Tab.yprim (t:Tab n K R T o Y) {i:Nat} (hi:i<=K) (d:Int) (hd:0<d) (h:∀ k,k<K+1->d ∣ Y i k):d=1:=t.prim i hi d hd λj hj=>by
 rw [t.comb i hi j hj]
 exact zxS λk hk=>Int.dvd_mul_of_dvd_left (h k hk)
theorem gB_up (M:Nat) {k B:Nat}:gB M k B<=gB M (k+1) B:=by
 have h1:B<=2*(B*B):=by
  cases B with
  | zero=>omega
  | succ b =>
    have:=ybE (b+1) (show 0<b+1 by omega)
    omega
 exact ya7 (zuU M k h1) (ybE _ (Nat.mul_pos (by omega) (by omega)))
theorem Tab.ybound (b:Bas n K R B) (t:Tab n K R T o Y) {i k:Nat} (hi:i<=K) (hk:k<=K):(Y i k).natAbs<=gB (K+1) K B:=by
 by_cases e:i=K
 ·subst e
  obtain ⟨z,⟨k0,hk0,hz0⟩,z1,z2⟩:=zuV (i+1) (i+1) ((List.range i).map λi'=>λk=>R k (o i')) B (yaj _) (by simp) (λv hv k hk=>by
   obtain ⟨i',hi',rfl⟩:=yan.mp hv
   exact b.bd k (by omega) _ (t.om i' (yaA.mp hi')))
  have zc:∀ i',i'<i->dt i R z (o i')=0:=λi' hi'=>by
   have:=z2 _ (yan.mpr ⟨i',yaA.mpr hi',rfl⟩)
   rw [← this]
   exact zaQ λk _=>yaZ _ _
  have w0:=t.ns (λk=>Y i i*z k-z i*Y i k) (by show Y i i*z i-z i*Y i i=0; rw [yaZ,ycQ]) (λi' hi'=>by
   rw [zoE,zc i' hi',t.col hi' (yaj _),t.zer i' hi' i (yaj _) (by omega)]
   rw [yaN,yaN]
   rfl)
  rw [yac,yau] at z1
  refine ya7 (zlW (N:=i+1) (p:=Y i i) (q:=z i) (z:=z) t.yg (λk hk => ?_) ⟨k0,hk0,hz0⟩ (λd hd h=>t.yprim hi d hd h) (by omega)) (z1 k)
  by_cases c:k=i
  ·subst c
   exact yaZ _ _
  ·have:=w0 k (by omega)
   omega
 ·have hi:i<K:=by omega
  obtain ⟨z,⟨k0,hk0,hz0⟩,z1,z2⟩:=zuV (K+1) K (((List.range K).filter λi'=>i' != i).map λi'=>λk=>R k (o i')) B (by omega) (by
   rw [yac]
   have h1:((List.range K).filter λi'=>i' != i).length<(List.range K).length:=by
    refine List.length_filter_lt_length_iff_exists.mpr ⟨i,yaA.mpr hi,?_⟩
    simp
   rw [yau] at h1
   exact h1) (λv hv k hk=>by
   obtain ⟨i',hi',rfl⟩:=yan.mp hv
   exact b.bd k (by omega) _ (t.om i' (yaA.mp (ybk.mp hi').1)))
  let zz:Nat->Int:=λk=>if k=K then 0 else z k
  have zs:∀ j,dt K R zz j=sm K λk=>R k j*z k:=λj=>by
   rw [zjD]
   show _+(if K=K then 0 else z K)*R K j=_
   rw [yaw rfl,ya6,ycP]
   exact zaQ λk hk=>by
    show (if k=K then 0 else z k)*R k j=_
    rw [yaz (by omega),yaZ]
  have zc:∀ i',i'<K->i'≠i->dt K R zz (o i')=0:=λi' hi' ne=>by
   rw [zs]
   exact z2 _ (yan.mpr ⟨i',ybk.mpr ⟨yaA.mpr hi',by simpa using ne⟩,rfl⟩)
  have w0:=t.ns (λk=>T i (o i)*zz k-dt K R zz (o i)*Y i k) (by
   show T i (o i)*(if K=K then 0 else z K)-_*Y i K=0
   rw [yaw rfl,t.yl i hi,yaN,yaN]
   rfl) (λi' hi'=>by
   rw [zoE,t.col hi' (by omega)]
   by_cases c:i'=i
   ·subst c
    rw [yaZ,ycQ]
   ·rw [zc i' hi' c,t.zer i' hi' i (by omega) (ybR c),yaN,yaN]
    rfl)
  have hl:(((List.range K).filter λi'=>i' != i).map λi'=>λk=>R k (o i')).length<=K:=by
   rw [yac]
   exact ya7 (ybG _ _) (by rw [yau]; exact yaj _)
  have gup:∀ (a c:Nat),a<=c->gB (K+1) a B<=gB (K+1) c B:=λa c h=>by
   induction h with
   | refl=>exact yaj _
   | step _ ih=>exact ya7 ih (gB_up _)
  by_cases ck:k=K
  ·rw [ck,t.yl i hi]
   exact ybd _
  ·refine ya7 (zlW (N:=K) (p:=T i (o i)) (q:=dt K R zz (o i)) (z:=z) (t.pos i hi) (λk hk => ?_) ⟨k0,hk0,hz0⟩ (λd hd h=>t.yprim (i:=i) (by omega) d hd λk hk => ?_) (by omega)) (ya7 (z1 k) (gup _ _ hl))
   ·have h:=w0 k hk
    have h:T i (o i)*(if k=K then 0 else z k)-dt K R zz (o i)*Y i k=0:=h
    rw [yaz (by omega)] at h
    omega
   ·by_cases c:k=K
    ·rw [c,t.yl i hi]
     exact Int.dvd_zero d
    ·exact h k (by omega)
theorem Tab.bound (b:Bas n K R B) (t:Tab n K R T o Y) {i j:Nat} (hi:i<=K) (hj:j<n+K):(T i j).natAbs<=(K+1)*(gB (K+1) K B*B):=by
 rw [t.comb i hi j hj]
 exact zuT λk hk=>zdr (t.ybound b hi (by omega)) (b.bd k (by omega) j hj)
end
end VW.SX
namespace VW.SX
section
variable {n K B:Nat} {R T T':Nat->Nat->Int} {o o':Nat->Nat} {Y:Nat->Nat->Int} {r s:Nat}
def mix (T:Nat->Nat->Int) (r s i j:Nat):Int:=T i j*T r s-T r j*T i s
def wmix (T Y:Nat->Nat->Int) (r s i k:Nat):Int:=T r s*Y i k-T i s*Y r k
theorem Tab.mix_dt (t:Tab n K R T o Y) (hr:r<K) {i j:Nat} (hi:i<=K) (hj:j<n+K):mix T r s i j=dt K R (wmix T Y r s i) j:=by
 unfold wmix
 rw [zoE,← t.comb i hi j hj,← t.comb r (by omega) j hj]
 unfold mix
 rw [yaZ (T i j),yaZ (T r j)]
theorem Tab.mix_nz (b:Bas n K R B) (t:Tab n K R T o Y) (hr:r<K) (hp:0<T r s) {i:Nat} (hi:i<=K) (ne:i≠r):∃ j,j<n+K/\mix T r s i j≠0:=by
 by_cases e:i=K
 ·refine yaJ λc => ?_
  have z:∀ j,j<n+K->mix T r s i j=0:=λj hj=>yaJ λh=>c ⟨j,hj,h⟩
  have w0:∀ k,k<K->wmix T Y r s i k=0:=λk hk=>by
   rw [← zm8 b (wmix T Y r s i) hk,← t.mix_dt hr hi (by omega)]
   exact z _ (by omega)
  have h1:dt K R (wmix T Y r s i) 0=wmix T Y r s i K:=by
   rw [zjD,zeP λk hk=>by rw [w0 k hk,ya6],b.g1 0 b.n1,ycU,ybO]
  rw [← t.mix_dt hr hi (by have:=b.n1; omega),z 0 (by have:=b.n1; omega)] at h1
  have h2:wmix T Y r s i K=T r s*Y K K:=by
   unfold wmix
   rw [t.yl r hr,e]
   omega
  rw [h2] at h1
  have:=ybC hp t.yg
  omega
 ·refine ⟨o i,t.om i (by omega),?_⟩
  unfold mix
  rw [t.zer i (by omega) r (by omega) (ybR ne),ya6,Int.sub_zero]
  have:=ybC (t.pos i (by omega)) hp
  omega
theorem zoF {g x:Int} (hg:0<g) (h:0<g*x):0<x:=by
 refine yaJ λc => ?_
 have:=ybp (ycq hg) (Int.not_lt.mp c)
 omega
def set' (o:Nat->Nat) (r s:Nat):Nat->Nat:=λi=>if i=r then s else o i
theorem Tab.turn (b:Bas n K R B) (t:Tab n K R T o Y) (hr:r<K) (hs:s<n+K) (hp:0<T r s) (h1:∀ j,j<n+K->T' r j=T r j)
 (h2:∀ i,i<=K->i≠r->(∃ g:Int,0<g/\∀ j,j<n+K->g*T' i j=mix T r s i j)/\∀ d:Int,0<d->(∀ j,j<n+K->d ∣ T' i j)->d=1):∃ Y',Tab n K R T' (set' o r s) Y':=by
 have hm:∀ i,i<K->n+i<n+K:=λi hi=>by omega
 let Y':Nat->Nat->Int:=λi k=>if k=K then (if i=K then T' K 0-sm K (λk=>T' K (n+k)*R k 0) else 0) else T' i (n+k)
 have yk:∀ i k,k<K->Y' i k=T' i (n+k):=λi k hk=>by
  show (if k=K then _ else _)=_
  rw [yaz (by omega)]
 have yl:∀ i,i<K->Y' i K=0:=λi hi=>by
  show (if K=K then (if i=K then _ else 0) else _)=0
  rw [yaw rfl,yaz (by omega)]
 have ygr:Y' K K=T' K 0-sm K (λk=>T' K (n+k)*R k 0):=by
  show (if K=K then (if K=K then _ else 0) else _)=_
  rw [yaw rfl,yaw rfl]
 have yw:∀ i g,i<=K->i≠r->0<g->(∀ j,j<n+K->g*T' i j=mix T r s i j)->∀ k,k<K+1->g*Y' i k=wmix T Y r s i k:=λi g hi ne hg e k hk=>by
  have e1:∀ k,k<K->g*Y' i k=wmix T Y r s i k:=λk hk=>by
   rw [yk i k hk,e _ (by omega),t.mix_dt hr hi (by omega),zm8 b _ hk]
  by_cases ck:k=K
  ·subst ck
   by_cases ci:i=k
   ·subst ci
    rw [ygr,ycT,e 0 (by have:=b.n1; omega),t.mix_dt hr hi (by have:=b.n1; omega),zjD,← zc8,b.g1 0 b.n1]
    have:sm i (λk=>g*(T' i (n+k)*R k 0))=sm i λk=>wmix T Y r s i k*R k 0:=zaQ λk hk=>by
     rw [← e1 k hk,yk i k hk,ya1]
    rw [this,ycU]
    omega
   ·rw [yl i (by omega),yaN]
    unfold wmix
    rw [t.yl i (by omega),t.yl r hr]
    simp
  ·exact e1 k (by omega)
 have cmb:∀ i,i<=K->∀ j,j<n+K->T' i j=dt K R (Y' i) j:=λi hi j hj=>by
  by_cases c:i=r
  ·subst c
   rw [h1 j hj,t.comb i hi j hj]
   exact zaQ λk hk=>by
    by_cases ck:k=K
    ·rw [ck,yl i hr,t.yl i hr]
    ·rw [yk i k (by omega),h1 _ (by omega),t.slack b hi (by omega)]
  ·obtain ⟨g,hg,e⟩:=(h2 i hi c).1
   refine ycv (show g≠0 by omega) ?_
   rw [e j hj,t.mix_dt hr hi hj]
   unfold dt
   rw [← zc8]
   exact zaQ λk hk=>by rw [← yw i g hi c hg e k hk,ya1]
 refine ⟨Y',cmb,yl,?_,λi hi => ?_,λi hi => ?_,λi hi i' hi' ne => ?_,λw wK wz => ?_,λi hi d hd h => ?_⟩
 ·obtain ⟨g,hg,e⟩:=(h2 K (yaj _) (by omega)).1
  have h:=yw K g (yaj _) (by omega) hg e K (by omega)
  have h3:wmix T Y r s K K=T r s*Y K K:=by
   unfold wmix
   rw [t.yl r hr]
   omega
  rw [h3] at h
  have:=ybC hp t.yg
  rw [← h] at this
  exact zoF hg this
 ·show (if i=r then s else o i)<_
  split
  ·exact hs
  ·exact t.om i hi
 ·show 0<T' i (if i=r then s else o i)
  split
  ·rename_i c
   subst c
   rw [h1 _ hs]
   exact hp
  ·rename_i c
   obtain ⟨g,hg,e⟩:=(h2 i (by omega) c).1
   have h:=e _ (t.om i hi)
   unfold mix at h
   rw [t.zer i hi r (by omega) (ybR c),ya6,Int.sub_zero] at h
   have:=ybC (t.pos i hi) hp
   rw [← h] at this
   exact zoF hg this
 ·show T' i' (if i=r then s else o i)=0
  split
  ·rename_i c
   subst c
   obtain ⟨g,hg,e⟩:=(h2 i' hi' ne).1
   have h:=e s hs
   unfold mix at h
   rw [yaZ (T i' s),ycQ] at h
   exact (yck.mp h).resolve_left (by omega)
  ·rename_i c
   by_cases c':i'=r
   ·subst c'
    rw [h1 _ (t.om i hi)]
    exact t.zer i hi i' hi' ne
   ·obtain ⟨g,hg,e⟩:=(h2 i' hi' c').1
    have h:=e _ (t.om i hi)
    unfold mix at h
    rw [t.zer i hi r (by omega) (ybR c),t.zer i hi i' hi' ne,ya6,ya6] at h
    exact (yck.mp (show g*T' i' (o i)=0 from h)).resolve_left (by omega)
 ·have wo:∀ i,i<K->i≠r->dt K R w (o i)=0:=λi hi ne=>by
   have:=wz i hi
   unfold set' at this
   rw [yaz ne] at this
   exact this
  have wsz:dt K R w s=0:=by
   have:=wz r hr
   unfold set' at this
   rw [yaw rfl] at this
   exact this
  have v0:=t.ns (λk=>T r (o r)*w k-dt K R w (o r)*Y r k) (by show T r (o r)*w K-_*Y r K=0; rw [wK,t.yl r hr,yaN,yaN]; rfl) (λi hi=>by
   rw [zoE,t.col hi (by omega)]
   by_cases c:i=r
   ·subst c
    rw [yaZ,ycQ]
   ·rw [wo i hi c,t.zer i hi r (by omega) (ybR c),yaN,yaN]
    rfl)
  have e1:dt K R (λk=>T r (o r)*w k-dt K R w (o r)*Y r k) s=0:=by
   unfold dt
   refine zeP λk hk => ?_
   by_cases c:k=K
   ·have:T r (o r)*w k-dt K R w (o r)*Y r k=0:=by rw [c,wK,t.yl r hr,yaN,yaN]; rfl
    show (T r (o r)*w k-dt K R w (o r)*Y r k)*R k s=0
    rw [this,ya6]
   ·have:T r (o r)*w k-dt K R w (o r)*Y r k=0:=v0 k (by omega)
    show (T r (o r)*w k-dt K R w (o r)*Y r k)*R k s=0
    rw [this,ya6]
  rw [zoE,wsz,← t.comb r (by omega) s hs,yaN] at e1
  have e2:dt K R w (o r)*T r s=0:=by omega
  have e3:dt K R w (o r)=0:=(yck.mp e2).resolve_right (by omega)
  exact t.ns w wK λi hi=>by
   by_cases c:i=r
   ·rw [c]; exact e3
   ·exact wo i hi c
 ·by_cases c:i=r
  ·subst c
   exact t.prim i hi d hd λj hj=>by rw [← h1 j hj]; exact h j hj
  ·exact (h2 i hi c).2 d hd h
theorem prods {f:Nat->Int}:∀ {K:Nat},(∀ i,i<K->0<f i)->∃ P:Int,0<P/\∃ p:Nat->Int,(∀ i,i<K->0<p i/\p i*f i=P)
 | 0,_=>⟨1,by decide,λ_=>0,λi h=>absurd h (ya0 _)⟩
 | K+1,h=>by
   obtain ⟨P,hP,p,hp⟩:=prods (f:=f) (K:=K) λi hi=>h i (by omega)
   refine ⟨P*f K,ybC hP (h K (by omega)),λi=>if i=K then P else p i*f K,λi hi => ?_⟩
   dsimp only
   split
   ·rename_i c
    subst c
    exact ⟨hP,rfl⟩
   ·obtain ⟨h1,h2⟩:=hp i (by omega)
    refine ⟨ybC h1 (h K (by omega)),?_⟩
    rw [ya1,yaZ (f K),← ya1,h2]
theorem Tab.tell (b:Bas n K R B) (t:Tab n K R T o Y) (w:Nat->Int):∃ P:Int,0<P/\∃ x:Nat->Int,(∀ j,j<n+K->P*(Y K K*dt K R w j)=P*(w K*T K j)+sm K λi=>x i*T i j)/\∀ i,i<K->∃ p:Int,0<p/\p*T i (o i)=P/\x i=p*(Y K K*dt K R w (o i)):=by
 obtain ⟨P,hP,p,hp⟩:=prods (f:=λi=>T i (o i)) t.pos
 let x:Nat->Int:=λi=>p i*(Y K K*dt K R w (o i))
 refine ⟨P,hP,x,?_,λi hi=>⟨p i,(hp i hi).1,(hp i hi).2,rfl⟩⟩
 let v:Nat->Int:=λk=>P*(Y K K*w k)-(P*(w K*Y K k)+sm K λi=>x i*Y i k)
 have vj:∀ j,j<n+K->dt K R v j=P*(Y K K*dt K R w j)-(P*(w K*T K j)+sm K λi=>x i*T i j):=λj hj=>by
  have e1:dt K R v j=sm (K+1) (λk=>P*(Y K K*(w k*R k j))-(P*(w K*(Y K k*R k j))+sm K λi=>x i*(Y i k*R k j))):=zaQ λk hk=>by
   show (P*(Y K K*w k)-(P*(w K*Y K k)+sm K λi=>x i*Y i k))*R k j=_
   rw [Int.sub_mul,Int.add_mul]
   have:(sm K λi=>x i*Y i k)*R k j=sm K λi=>x i*(Y i k*R k j):=by
    rw [yaZ,← zc8]
    exact zaQ λi _=>by rw [yaZ,ya1]
   rw [this]
   simp only [ya1]
  rw [e1,zqZ,zuS,zc8,zc8,zc8,zc8,ziJ]
  have e2:(sm K λi=>sm (K+1) λk=>x i*(Y i k*R k j))=sm K λi=>x i*T i j:=zaQ λi hi=>by
   rw [zc8,t.comb i (by omega) j hj]
   rfl
  rw [t.comb K (yaj _) j hj]
  rw [← ziJ] at e2
  rw [← ziJ,e2]
  rfl
 have vK:v K=0:=by
  show P*(Y K K*w K)-(P*(w K*Y K K)+sm K λi=>x i*Y i K)=0
  rw [zeP λi hi=>by rw [t.yl i hi,yaN],yaZ (w K)]
  omega
 have v0:=t.ns v vK λi hi=>by
  rw [vj _ (t.om i hi),sm_one (k:=i) hi (λi' hi' ne=>by rw [t.zer i hi i' (by omega) ne,yaN]),t.zer i hi K (yaj _) (by omega)]
  show P*(Y K K*dt K R w (o i))-(P*(w K*0)+p i*(Y K K*dt K R w (o i))*T i (o i))=0
  rw [← (hp i hi).2]
  have e:p i*T i (o i)*(Y K K*dt K R w (o i))=p i*(Y K K*dt K R w (o i))*T i (o i):=by
   rw [ya1,ya1,yaZ (T i (o i))]
  rw [e,yaN,yaN]
  omega
 intro j hj
 have:=vj j hj
 have z:dt K R v j=0:=zeP λk hk=>by
  by_cases c:k=K
  ·rw [c,vK,ya6]
  ·rw [v0 k (by omega),ya6]
 omega
end
end VW.SX
namespace VW.SX
theorem zxT:∀ (N:Nat) (f:Nat->Nat),(∀ t,t<=N->f t<N)->∃ i j,i<j/\j<=N/\f i=f j
 | 0,f,h=>absurd (h 0 (yaj _)) (ya0 _)
 | N+1,f,h=>by
   by_cases c:∃ t,t<=N/\f t=f (N+1)
   ·obtain ⟨t,ht,e⟩:=c
    exact ⟨t,N+1,by omega,yaj _,e⟩
   ·have ne:∀ t,t<=N->f t≠f (N+1):=λt ht e=>c ⟨t,ht,e⟩
    have hv:=h (N+1) (yaj _)
    obtain ⟨i,j,hij,hj,e⟩:=zxT N (λt=>if f t > f (N+1) then f t-1 else f t) λt ht=>by
     have h1:=h t (by omega)
     have h2:=ne t ht
     show (if f t > f (N+1) then f t-1 else f t)<N
     split<;>omega
    refine ⟨i,j,hij,by omega,?_⟩
    have h1:=ne i (by omega)
    have h2:=ne j hj
    have e:(if f i > f (N+1) then f i-1 else f i)=(if f j > f (N+1) then f j-1 else f j):=e
    split at e<;>split at e<;>omega
open Classical in
noncomputable def mkM (p:Nat->Prop):Nat->Nat
 | 0=>0
 | m+1=>mkM p m+if p m then 2 ^ m else 0
theorem zwN (p:Nat->Prop):∀ m,mkM p m<2 ^ m
 | 0=>by show 0<1; decide
 | m+1=>by
   have:=zwN p m
   unfold mkM
   rw [Nat.pow_succ]
   split<;>omega
theorem mk_eq {p q:Nat->Prop}:∀ {m:Nat},mkM p m=mkM q m->∀ j,j<m->(p j↔q j)
 | 0,_,j,h=>absurd h (ya0 _)
 | m+1,e,j,h=>by
   have h1:=zwN p m
   have h2:=zwN q m
   unfold mkM at e
   have both:(p m↔q m)/\mkM p m=mkM q m:=by
    by_cases cp:p m<;>by_cases cq:q m
    ·rw [yaw cp,yaw cq] at e
     exact ⟨⟨λ_=>cq,λ_=>cp⟩,by omega⟩
    ·rw [yaw cp,yaz cq] at e
     omega
    ·rw [yaz cp,yaw cq] at e
     omega
    ·rw [yaz cp,yaz cq] at e
     exact ⟨⟨λz=>absurd z cp,λz=>absurd z cq⟩,by omega⟩
   by_cases c:j=m
   ·rw [c]; exact both.1
   ·exact mk_eq both.2 j (by omega)
structure Piv (n K:Nat) (T:Nat->Nat->Int) (o:Nat->Nat) (r s:Nat):Prop where
 s_lt:s<n+K
 s_pos:0<T K s
 s_first:∀ j,j<s->T K j<=0
 r_lt:r<K
 r_pos:0<T r s
 r_least:∀ i,i<K->0<T i s->o r<=o i
structure Run (n K:Nat) (R:Nat->Nat->Int) (L:Nat) (T:Nat->Nat->Nat->Int) (o:Nat->Nat->Nat) (r s:Nat->Nat):Prop where
 tab:∀ t,t<=L->∃ Y,Tab n K R (T t) (o t) Y
 piv:∀ t,t<L->Piv n K (T t) (o t) (r t) (s t)
 nxt:∀ t,t<L->∀ i,i<K->o (t+1) i=set' (o t) (r t) (s t) i
section
variable {n K L:Nat} {R:Nat->Nat->Int} {T:Nat->Nat->Nat->Int} {o:Nat->Nat->Nat} {r s:Nat->Nat}
def Bsc (K:Nat) (o:Nat->Nat->Nat) (t j:Nat):Prop:=∃ i,i<K/\o t i=j
theorem Tab.inj {T:Nat->Nat->Int} {o:Nat->Nat} {Y:Nat->Nat->Int} (h:Tab n K R T o Y) {i i':Nat} (hi:i<K) (hi':i'<K) (e:o i=o i'):i=i':=by
 refine yaJ λc => ?_
 have h1:=h.zer i hi i' (by omega) (ybR c)
 have h2:=h.pos i' hi'
 rw [← e] at h2
 omega
theorem Run.step (h:Run n K R L T o r s) {t:Nat} (ht:t<L) (j:Nat):Bsc K o (t+1) j↔j=s t\/Bsc K o t j/\j≠o t (r t):=by
 obtain ⟨Y,tb⟩:=h.tab t (by omega)
 have pv:=h.piv t ht
 refine ⟨λ⟨i,hi,e⟩ => ?_,λz => ?_⟩
 ·rw [h.nxt t ht i hi] at e
  unfold set' at e
  split at e
  ·exact .inl e.symm
  ·rename_i c
   exact .inr ⟨⟨i,hi,e⟩,λe2=>c (tb.inj hi pv.r_lt (e.trans e2))⟩
 ·rcases z with rfl | ⟨⟨i,hi,e⟩,ne⟩
  ·exact ⟨r t,pv.r_lt,by rw [h.nxt t ht _ pv.r_lt]; unfold set'; rw [yaw rfl]⟩
  ·refine ⟨i,hi,?_⟩
   rw [h.nxt t ht i hi]
   unfold set'
   rw [yaz λc=>ne (by rw [← e,c])]
   exact e
theorem Run.free (h:Run n K R L T o r s) {t j:Nat} (ht:t<=L) (z:T t K j≠0):¬ Bsc K o t j:=λ⟨i,hi,e⟩=>by
 obtain ⟨Y,tb⟩:=h.tab t ht
 exact z (by rw [← e]; exact tb.zer i hi K (yaj _) (by omega))
theorem zuW (f:Nat->Nat) (a:Nat):∀ k:Nat,∃ t,a<=t/\t<a+(k+1)/\∀ u,a<=u->u<a+(k+1)->f u<=f t
 | 0=>⟨a,yaj _,by omega,λu h1 h2=>by
   have:u=a:=by omega
   rw [this]
   exact yaj _⟩
 | k+1=>by
   obtain ⟨t,h1,h2,h3⟩:=zuW f a k
   by_cases c:f t<=f (a+(k+1))
   ·refine ⟨a+(k+1),by omega,by omega,λu h4 h5 => ?_⟩
    by_cases e:u=a+(k+1)
    ·rw [e]; exact yaj _
    ·exact ya7 (h3 u h4 (by omega)) c
   ·refine ⟨t,h1,by omega,λu h4 h5 => ?_⟩
    by_cases e:u=a+(k+1)
    ·rw [e]; omega
    ·exact h3 u h4 (by omega)
theorem Run.no_round {B:Nat} (b:Bas n K R B) (h:Run n K R L T o r s) {i0 j0:Nat} (hij:i0<j0) (hj:j0<=L) (same:∀ j,j<n+K->(Bsc K o i0 j↔Bsc K o j0 j)):False:=by
 obtain ⟨a,a1,a2,a3⟩:=zuW s i0 (j0-i0-1)
 have a2:a<j0:=by omega
 have a3:∀ u,i0<=u->u<j0->s u<=s a:=λu h1 h2=>a3 u h1 (by omega)
 have pa:=h.piv a (by omega)
 obtain ⟨Ya,ta⟩:=h.tab a (by omega)
 have down:∀ j,(∀ t,i0<=t->t<j0->s t≠j)->∀ t u,i0<=t->t<=u->u<=j0->Bsc K o u j->Bsc K o t j:=λj hn t u h1 h2=>by
  induction h2 with
  | refl=>exact λ_ z=>z
  | step _ ih =>
    rename_i u h2
    have h2:t<=u:=h2
    intro h3 z
    rcases (h.step (by omega) j).mp z with e | ⟨z,_⟩
    ·exact absurd e.symm (hn u (by omega) (by omega))
    ·exact ih (by omega) z
 have up:∀ j,(∀ t,i0<=t->t<j0->o t (r t)≠j)->∀ t u,i0<=t->t<=u->u<=j0->Bsc K o t j->Bsc K o u j:=λj hn t u h1 h2=>by
  induction h2 with
  | refl=>exact λ_ z=>z
  | step _ ih =>
    rename_i u h2
    have h2:t<=u:=h2
    intro h3 z
    exact (h.step (by omega) j).mpr (.inr ⟨ih (by omega) z,λe=>hn u (by omega) (by omega) e.symm⟩)
 have fa:¬ Bsc K o a (s a):=h.free (by omega) (by have:=pa.s_pos; omega)
 obtain ⟨bb,b1,b2,b3⟩:∃ t,i0<=t/\t<j0/\o t (r t)=s a:=by
  refine yaJ λc => ?_
  have hn:∀ t,i0<=t->t<j0->o t (r t)≠s a:=λt h1 h2 e=>c ⟨t,h1,h2,e⟩
  have z1:Bsc K o (a+1) (s a):=(h.step (by omega) _).mpr (.inl rfl)
  have z2:=up _ hn (a+1) j0 (by omega) (by omega) (yaj _) z1
  have z3:=(same _ pa.s_lt).mpr z2
  exact fa (up _ hn i0 a (yaj _) a1 (by omega) z3)
 have pb:=h.piv bb (by omega)
 obtain ⟨Yb,tb⟩:=h.tab bb (by omega)
 have sb:s bb<s a:=by
  have h1:=a3 bb b1 b2
  have h2:s bb≠s a:=λe=>h.free (t:=bb) (j:=s bb) (by omega) (by have:=pb.s_pos; omega) ⟨r bb,pb.r_lt,b3.trans e.symm⟩
  omega
 obtain ⟨P,hP,x,e1,e2⟩:=tb.tell b (Ya K)
 have e3:=e1 (s bb) pb.s_lt
 rw [← ta.comb K (yaj _) _ pb.s_lt] at e3
 have f1:=pa.s_first _ sb
 have f2:P*(Yb K K*T a K (s bb))<=0:=ybp (by omega) (ybp (ycq tb.yg) f1)
 have f3:0<P*(Ya K K*T bb K (s bb)):=ybC hP (ybC ta.yg pb.s_pos)
 obtain ⟨i,hi,hx⟩:=zxQ (f:=λi=>x i*T bb i (s bb)) (n:=K) (by omega)
 obtain ⟨p,hp,_,ex⟩:=e2 i hi
 rw [← ta.comb K (yaj _) _ (tb.om i hi)] at ex
 have c0:0<p*Yb K K:=ybC hp tb.yg
 rw [← ya1] at ex
 have nz:T a K (o bb i)≠0:=λe=>by
  rw [ex,e,yaN,ya6] at hx
  omega
 have na:=h.free (t:=a) (by omega) nz
 obtain ⟨t,t1,t2,t3⟩:∃ t,i0<=t/\t<j0/\s t=o bb i:=by
  refine yaJ λc => ?_
  have hn:∀ t,i0<=t->t<j0->s t≠o bb i:=λt h1 h2 e=>c ⟨t,h1,h2,e⟩
  have z1:=down _ hn i0 bb (yaj _) b1 (by omega) ⟨i,hi,rfl⟩
  have z2:=(same _ (tb.om i hi)).mp z1
  exact na (down _ hn a j0 a1 (by omega) (yaj _) z2)
 have jle:o bb i<=s a:=by
  rw [← t3]
  exact a3 t t1 t2
 by_cases cj:o bb i=s a
 ·have ei:i=r bb:=tb.inj hi pb.r_lt (cj.trans b3.symm)
  have g1:0<x i:=by
   rw [ex,cj]
   exact ybC c0 pa.s_pos
  have g2:=pb.r_pos
  rw [← ei] at g2
  have:=ybC g1 g2
  omega
 ·have g1:=pa.s_first (o bb i) (by omega)
  have g2:x i<0:=by
   rw [ex]
   exact Int.mul_neg_of_pos_of_neg c0 (by omega)
  have g3:0<T bb i (s bb):=by
   refine yaJ λc => ?_
   have:=Int.mul_nonneg_of_nonpos_of_nonpos (ycq g2) (Int.not_lt.mp c)
   omega
  have:=pb.r_least i hi g3
  omega
theorem Run.short {B:Nat} (b:Bas n K R B) (h:Run n K R L T o r s):L<2 ^ (n+K):=by
 refine yaJ λc => ?_
 obtain ⟨i,j,hij,hj,e⟩:=zxT (2 ^ (n+K)) (λt=>mkM (Bsc K o t) (n+K)) λt _=>zwN _ _
 exact h.no_round b hij (by omega) (mk_eq e)
end
end VW.SX
namespace VW.SX
section
variable {n K B:Nat} {R T:Nat->Nat->Int} {o:Nat->Nat} {Y:Nat->Nat->Int}
theorem Tab.gain (b:Bas n K R B) (t:Tab n K R T o Y) {j:Nat} (hj:j<n):T K j=Y K K+sm K λk=>T K (n+k)*R k j:=by
 rw [t.comb K (yaj _) j (by omega),zjD,b.g1 j hj,ycU,Int.add_comm]
 congr 1
 exact zaQ λk hk=>by rw [t.slack b (yaj _) hk]
theorem Tab.weight (b:Bas n K R B) (t:Tab n K R T o Y) (h:∀ j,j<n+K->T K j<=0) {j:Nat} (hj:j<n):1<=sm K λk=>(0-T K (n+k))*R k j:=by
 have h1:=t.gain b hj
 have h2:=h j (by omega)
 have h3:(sm K λk=>(0-T K (n+k))*R k j)=(-1)*sm K λk=>T K (n+k)*R k j:=by
  rw [← zc8]
  exact zaQ λk _=>by
   rw [Int.zero_sub,Int.neg_mul,Int.neg_mul,ycc]
 have h4:=t.yg
 rw [h3]
 omega
theorem sm_two {f:Nat->Int} {a c:Nat} (ne:a≠c):∀ {m:Nat},a<m->c<m->(∀ i,i<m->i≠a->i≠c->f i=0)->sm m f=f a+f c
 | 0,h,_,_=>absurd h (ya0 _)
 | m+1,ha,hc,z=>by
   unfold sm
   by_cases ea:a=m
   ·rw [sm_one (k:=c) (by omega) λi hi h=>z i (by omega) (by omega) h,ea,Int.add_comm]
   ·by_cases ec:c=m
    ·rw [sm_one (k:=a) (by omega) λi hi h=>z i (by omega) h (by omega),ec]
    ·rw [sm_two ne (by omega) (by omega) λi hi=>z i (by omega),z m (by omega) (ybR ea) (ybR ec),ycP]
structure Ray (n K:Nat) (T:Nat->Nat->Int) (o:Nat->Nat) (s:Nat) (W:Int) (f:Nat->Int):Prop where
 s_lt:s<n+K
 s_pos:0<T K s
 le:∀ i,i<K->T i s<=0
 W0:0<W
 fs:f s=W
 fo:∀ i,i<K->∃ q:Int,q*T i (o i)=W/\f (o i)=0-T i s*q
 fz:∀ j,j<n+K->j≠s->(∀ i,i<K->j≠o i)->f j=0
theorem Ray.nonneg (t:Tab n K R T o Y) {s:Nat} {W:Int} {f:Nat->Int} (y:Ray n K T o s W f) {j:Nat} (hj:j<n+K):0<=f j:=by
 by_cases c:j=s
 ·rw [c,y.fs]
  have:=y.W0
  omega
 ·by_cases c2:∃ i,i<K/\j=o i
  ·obtain ⟨i,hi,rfl⟩:=c2
   obtain ⟨q,hq,e⟩:=y.fo i hi
   have q0:0<q:=by
    have h:=y.W0
    rw [← hq,yaZ] at h
    exact zoF (t.pos i hi) h
   have:=Int.mul_nonpos_of_nonpos_of_nonneg (y.le i hi) (ycq q0)
   rw [e]
   omega
  ·rw [y.fz j hj c λi hi e=>c2 ⟨i,hi,e⟩]
   exact Int.le_refl _
theorem Ray.row (t:Tab n K R T o Y) {s:Nat} {W:Int} {f:Nat->Int} (y:Ray n K T o s W f) {i:Nat} (hi:i<K):sm (n+K) (λj=>T i j*f j)=0:=by
 have ne:s≠o i:=λe=>by
  have h1:=t.zer i hi K (yaj _) (by omega)
  have h2:=y.s_pos
  rw [e,h1] at h2
  omega
 rw [sm_two ne y.s_lt (t.om i hi) λj hj h1 h2 => ?_]
 ·obtain ⟨q,hq,e⟩:=y.fo i hi
  rw [y.fs,e,← hq,ycT,yaN]
  have:T i (o i)*(T i s*q)=T i s*(q*T i (o i)):=by
   rw [Int.mul_left_comm,yaZ (T i (o i))]
  rw [this]
  omega
 ·by_cases c2:∃ i',i'<K/\j=o i'
  ·obtain ⟨i',hi',e⟩:=c2
   rw [e,t.zer i' hi' i (by omega) (λz=>h2 (by rw [e,z])),ya6]
  ·rw [y.fz j hj h1 λi hi e=>c2 ⟨i,hi,e⟩,yaN]
theorem Ray.gain (t:Tab n K R T o Y) {s:Nat} {W:Int} {f:Nat->Int} (y:Ray n K T o s W f):sm (n+K) (λj=>T K j*f j)=T K s*W:=by
 rw [sm_one (k:=s) y.s_lt λj hj h1 => ?_,y.fs]
 by_cases c2:∃ i',i'<K/\j=o i'
 ·obtain ⟨i',hi',e⟩:=c2
  rw [e,t.zer i' hi' K (yaj _) (by omega),ya6]
 ·rw [y.fz j hj h1 λi hi e=>c2 ⟨i,hi,e⟩,yaN]
theorem sum_dt (w f:Nat->Int) (m:Nat):sm m (λj=>dt K R w j*f j)=sm (K+1) λk=>w k*sm m λj=>R k j*f j:=by
 have e:sm m (λj=>dt K R w j*f j)=sm m λj=>sm (K+1) λk=>w k*(R k j*f j):=zaQ λj _=>by
  unfold dt
  rw [yaZ,← zc8]
  exact zaQ λk _=>by rw [yaZ,ya1]
 rw [e,ziJ]
 exact zaQ λk _=>zc8 _ _ _
theorem Ray.first (b:Bas n K R B) (t:Tab n K R T o Y) {s:Nat} {W:Int} {f:Nat->Int} (y:Ray n K T o s W f) {k:Nat} (hk:k<K):sm (n+K) (λj=>R k j*f j)=0:=by
 obtain ⟨P,hP,x,e1,_⟩:=t.tell b (λk'=>if k'=k then 1 else 0)
 have ed:∀ j,dt K R (λk'=>if k'=k then (1:Int) else 0) j=R k j:=λj=>by
  unfold dt
  rw [sm_one (k:=k) (by omega) λi hi h=>by dsimp only; rw [yaz h,ya6]]
  show (if k=k then (1:Int) else 0)*_=_
  rw [yaw rfl,ycc]
 have h1:(P*Y K K)*sm (n+K) (λj=>R k j*f j)=sm (n+K) λj=>sm K λi=>x i*(T i j*f j):=by
  rw [← zc8]
  refine zaQ λj hj => ?_
  have h:=e1 j hj
  rw [ed] at h
  have hz:(if K=k then (1:Int) else 0)=0:=yaz (by omega)
  rw [hz,ya6,yaN,ybO] at h
  have e2:P*Y K K*(R k j*f j)=P*(Y K K*R k j)*f j:=by simp only [ya1]
  rw [e2,h,yaZ,← zc8]
  exact zaQ λi _=>by rw [yaZ,ya1]
 have h2:(sm (n+K) λj=>sm K λi=>x i*(T i j*f j))=0:=by
  rw [ziJ]
  refine zeP λi hi => ?_
  show (sm (n+K) λj=>x i*(T i j*f j))=0
  rw [zc8,y.row t hi,yaN]
 rw [h2] at h1
 have:=ybC hP t.yg
 exact (yck.mp h1).resolve_left (by omega)
theorem Ray.lost (b:Bas n K R B) (t:Tab n K R T o Y) {s:Nat} {W:Int} {f:Nat->Int} (y:Ray n K T o s W f) {k:Nat} (hk:k<K):sm n (λj=>f j*R k j)<=0:=by
 have h:=y.first b t hk
 rw [zm7] at h
 rw [sm_one (n:=K) (k:=k) hk λi hi ne=>by rw [b.unit k hk i hi,yaz ne,ya6]] at h
 have e:R k (n+k)=1:=by rw [b.unit k hk k hk,yaw rfl]
 have h2:=y.nonneg t (j:=n+k) (by omega)
 have e2:sm n (λj=>f j*R k j)=sm n λj=>R k j*f j:=zaQ λj _=>yaZ _ _
 rw [e2]
 have h:sm n (λj=>R k j*f j)+R k (n+k)*f (n+k)=0:=h
 rw [e,ycc] at h
 omega
theorem Ray.some (b:Bas n K R B) (t:Tab n K R T o Y) {s:Nat} {W:Int} {f:Nat->Int} (y:Ray n K T o s W f):1<=sm n f:=by
 have h:=y.gain t
 have e:sm (n+K) (λj=>T K j*f j)=sm (n+K) λj=>dt K R (Y K) j*f j:=zaQ λj hj=>by rw [t.comb K (yaj _) j hj]
 rw [e,sum_dt] at h
 have h1:(sm (K+1) λk=>Y K k*sm (n+K) λj=>R k j*f j)=Y K K*sm (n+K) λj=>R K j*f j:=by
  show sm K _+_=_
  rw [zeP λk hk=>by rw [y.first b t hk,yaN],ybO]
 have h2:(sm (n+K) λj=>R K j*f j)=sm n f:=by
  rw [zm7,zeP (n:=K) λi hi=>by rw [b.g0 i hi,ya6],ycP]
  exact zaQ λj hj=>by rw [b.g1 j hj,ycc]
 rw [h1,h2] at h
 have h3:=ybC y.s_pos y.W0
 rw [← h] at h3
 have:=zoF t.yg h3
 omega
end
end VW.SX
namespace VW.SX
open PySem PySem.Spec L2 R
theorem euclid {ρ:Type} {A:(D×D)->R ρ}:∀ (k a b n:Nat),b<2 ^ k->2*k+1<=n->R.whileN zba A n ((.int a,.int b):D×D)=A (.int (Nat.gcd a b:Nat),.int (0:Nat)):=by
 have s0:∀ (a n:Nat),1<=n->R.whileN zba A n ((.int a,.int (0:Nat)):D×D)=A (.int a,.int (0:Nat)):=λa n hn=>by
  obtain ⟨n,rfl⟩:∃ m,n=m+1:=⟨n-1,by omega⟩
  show zba _ _ _=_
  unfold zba
  simp only [zlD,zab]
  rfl
 have s1:∀ (a b n:Nat),0<b->R.whileN zba A (n+1) ((.int a,.int b):D×D)=R.whileN zba A n ((.int b,.int (a % b:Nat)):D×D):=λa b n hb=>by
  show zba _ _ _=_
  unfold zba
  simp only [zlD,zab]
  have e:decide ((b:Int)=0)=false:=yaD (by omega)
  rw [e]
  show R.bind (nMod (.int a) (.int b)) _=_
  have e2:nMod (.int (a:Int)) (.int (b:Int))=.ok (.int ((a % b:Nat):Int)):=by
   show need _ _=_
   rw [zaz (yaf (by omega))]
   rw [Int.natCast_emod]
  rw [e2]
  rfl
 intro k
 induction k with
 | zero =>
   intro a b n hb hn
   have:b=0:=by
    have:(2:Nat) ^ 0=1:=rfl
    omega
   subst this
   rw [s0 a n (by omega),Nat.gcd_zero_right]
 | succ k ih =>
   intro a b n hb hn
   by_cases c:b=0
   ·subst c
    rw [s0 a n (by omega),Nat.gcd_zero_right]
   ·obtain ⟨n,rfl⟩:∃ m,n=m+2:=⟨n-2,by omega⟩
    rw [s1 a b (n+1) (by omega)]
    have hl:=Nat.mod_lt a (show 0<b by omega)
    by_cases c2:a % b=0
    ·rw [c2,s0 b (n+1) (by omega),Nat.gcd_comm,Nat.gcd_rec,c2,Nat.gcd_zero_left]
    ·rw [s1 b (a % b) n (by omega),ih (a % b) (b % (a % b)) n ?_ (by omega)]
     ·have e:Nat.gcd (a % b) (b % (a % b))=Nat.gcd a b:=by
       rw [Nat.gcd_comm (a % b),← Nat.gcd_rec,← Nat.gcd_rec,Nat.gcd_comm]
      rw [e]
     ·have h1:=Nat.mod_lt b (show 0<a % b by omega)
      have h2:b % (a % b)*2<=b:=by
       have h3:=Nat.div_add_mod b (a % b)
       have h4:1<=b / (a % b):=(Nat.le_div_iff_mul_le (by omega)).mpr (by omega)
       have h5:a % b*1<=a % b*(b / (a % b)):=Nat.mul_le_mul_left _ h4
       omega
      rw [Nat.pow_succ] at hb
      omega
def gcdF (g:Nat):List Int->Nat
 | []=>g
 | x::xs=>gcdF (Nat.gcd g x.natAbs) xs
theorem zjE:∀ (xs:List Int) (g:Nat),gcdF g xs ∣ g/\∀ x∈xs,((gcdF g xs:Nat):Int) ∣ x
 | [],g=>⟨Nat.dvd_refl g,λx h=>nomatch h⟩
 | x::xs,g=>by
   obtain ⟨h1,h2⟩:=zjE xs (Nat.gcd g x.natAbs)
   refine ⟨Nat.dvd_trans h1 (Nat.gcd_dvd_left _ _),λy hy => ?_⟩
   rcases yap.mp hy with rfl | hy
   ·exact ycr.mpr (Nat.dvd_trans h1 (Nat.gcd_dvd_right _ _))
   ·exact h2 y hy
theorem zm9 {d:Nat}:∀ (xs:List Int) (g:Nat),d ∣ g->(∀ x∈xs,(d:Int) ∣ x)->d ∣ gcdF g xs
 | [],g,h,_=>h
 | x::xs,g,h,k=>zm9 xs _ (Nat.dvd_gcd h (ycr.mp (k x yaa))) λy hy=>k y (yab _ hy)
theorem zzU (x:Int):(if x<0 then -x else x)=(x.natAbs:Int):=by
 split<;>omega
theorem zoG {k:Nat} {xs:List Int} (hk:k<=100000) (h:∀ x∈xs,x.natAbs<2 ^ k):zdi (.lst (xs.map D.int))=.ok (.int (gcdF 0 xs:Nat)):=by
 have key:∀ (xs:List Int) (g:Nat),(∀ x∈xs,x.natAbs<2 ^ k)->R.forS zc0 (xs.map D.int) (.int (g:Nat))=.ok (.int (gcdF g xs:Nat)):=by
  intro xs
  induction xs with
  | nil=>exact λ_ _=>rfl
  | cons x xs ih =>
    intro g h
    have e:zc0 (.int x) (.int (g:Nat))=.ok (.int (Nat.gcd g x.natAbs:Nat)):=by
     unfold zc0
     show R.whileN zba _ most ((.int (g:Nat),.int (if x<0 then -x else x)):D×D)=_
     rw [zzU,euclid k g x.natAbs most (h x yaa) (by unfold most; omega)]
    show (zc0 (.int x) (.int (g:Nat))).bind _=_
    rw [e]
    exact ih _ λy hy=>h y (yab _ hy)
 unfold zdi
 show R.bind (R.forS zc0 (xs.map D.int) (.int (0:Nat))) _=_
 rw [key xs 0 h]
 rfl
def rowD (m:Nat) (f:Nat->Int):List D:=(List.range m).map λj=>D.int (f j)
theorem rowD_len (m:Nat) (f:Nat->Int):(rowD m f).length=m:=by unfold rowD; rw [yac,yau]
theorem zds {m:Nat} {f:Nat->Int} {j:Nat} (h:j<m):(rowD m f)[j]?=some (.int (f j)):=by
 unfold rowD
 rw [yaI,yaU h]
 rfl
theorem zgH {m:Nat} {f g:Nat->Int} (h:∀ j,j<m->f j=g j):rowD m f=rowD m g:=by
 unfold rowD
 exact ybP λj hj=>by rw [h j (yaA.mp hj)]
theorem atI_n {α:Type} {xs:List α} {j:Nat} {x:α} (h:xs[j]?=some x):atI xs (j:Int)=some x:=by
 obtain ⟨y,h1,h2⟩:=zgx (xs:=xs) (i:=(j:Int)) (by omega) (by have:=(yal.mp h).1; omega)
 rw [h2,← h1]
 exact h
theorem zdt {m:Nat} {f:Nat->Int} {j:Nat} (h:j<m):nIx (.lst (rowD m f)) (.int (j:Nat))=.ok (.int (f j)):=zkg (atI_n (zds h))
def mixL (m:Nat) (f p:Nat->Int) (c:Nat):List Int:=(List.range m).map λj=>f j*p c-p j*f c
def byL (m:Nat) (f p:Nat->Int) (c:Nat):Nat:=max 1 (gcdF 0 (mixL m f p c))
theorem zip_rows (m:Nat) (f p:Nat->Int):zipD (rowD m f) (rowD m p)=(List.range m).map λj=>D.tup [.int (f j),.int (p j)]:=by
 unfold zipD rowD
 rw [List.zip_map',yaY]
 rfl
theorem zzV {xs:List Int} {x:Int} (h:x∈xs) (nz:x≠0):gcdF 0 xs<=x.natAbs:=by
 have:=(zjE xs 0).2 x h
 exact Nat.le_of_dvd (by omega) (ycr.mp this)
theorem zuX {m:Nat} {f p:Nat->Int} {c:Nat} {b:Nat} (hb:∀ x∈mixL m f p c,x.natAbs<2 ^ b):byL m f p c<2 ^ (b+1):=by
 have h1:1<2 ^ (b+1):=Nat.one_lt_two_pow (by omega)
 unfold byL
 by_cases z:∃ x∈mixL m f p c,x≠0
 ·obtain ⟨x,hx,nz⟩:=z
  have h2:=zzV hx nz
  have h3:=hb x hx
  have h4:2 ^ b<2 ^ (b+1):=Nat.pow_lt_pow_right (by omega) (by omega)
  omega
 ·have hz:gcdF 0 (mixL m f p c)=0:=by
   have:=zm9 (d:=0) (mixL m f p c) 0 (Nat.dvd_refl 0) λx hx=>by
    have:x=0:=yaJ λnz=>z ⟨x,hx,nz⟩
    rw [this]
    exact Int.dvd_refl 0
   exact Nat.eq_zero_of_zero_dvd this
  omega
theorem zuY {m b:Nat} {f p:Nat->Int} {c:Nat} (hm:m<=1000) (hc:c<m) (hb:b<=4400) (b0:0<b) (hf:∀ j,j<m->(f j).natAbs<2 ^ b) (hp:∀ j,j<m->(p j).natAbs<2 ^ b) :
 zcD (.lst (rowD m f)) (.lst (rowD m p)) (.int (c:Nat))=.ok (rowD m λj=>(f j*p c-p j*f c) / (byL m f p c:Nat)):=by
 have w:∀ {x y:Int},x.natAbs<2 ^ b->y.natAbs<2 ^ b->zgL (.int x) (.int y)=.ok (.int (x*y)):=λhx hy=>zaz (yaf (wide_mul hx hy b0 b0 (by omega)))
 have mb:∀ x∈mixL m f p c,x.natAbs<2 ^ (b+b+1):=λx hx=>by
  obtain ⟨j,hj,rfl⟩:=yan.mp hx
  have hj:=yaA.mp hj
  have h1:=wide_lt (hf j hj) (hp c hc)
  have h2:=wide_lt (hp j hj) (hf c hc)
  have h3:(f j*p c-p j*f c).natAbs<=(f j*p c).natAbs+(p j*f c).natAbs:=by omega
  rw [Nat.pow_succ]
  omega
 have e1:lcM (λd_1:D=>R.bind (nUn2 d_1) λp_1=>R.bind (nIx (.lst (rowD m p)) (.int (c:Nat))) λt_1=>R.bind (zgL p_1.1 t_1) λt_2=>R.bind (nIx (.lst (rowD m f)) (.int (c:Nat))) λt_3=>R.bind (zgL p_1.2 t_3) λt_4=>nSub t_2 t_4) (zipD (rowD m f) (rowD m p))=.ok ((mixL m f p c).map D.int):=by
  rw [zip_rows]
  rw [zfJ (g:=λj=>D.int (f j*p c-p j*f c)) (List.range m) (λj hj => ?_) (by rw [yau]; exact hm)]
  ·unfold mixL
   rw [yaY]
   rfl
  ·have hj:=yaA.mp hj
   show R.bind (nIx (.lst (rowD m p)) (.int (c:Nat))) _=_
   rw [zdt hc]
   show R.bind (zgL (.int (f j)) (.int (p c))) _=_
   rw [w (hf j hj) (hp c hc)]
   show R.bind (nIx (.lst (rowD m f)) (.int (c:Nat))) _=_
   rw [zdt hc]
   show R.bind (zgL (.int (p j)) (.int (f c))) _=_
   rw [w (hp j hj) (hf c hc)]
   rfl
 have bs:=zuX mb
 unfold zcD
 show R.bind (lcM _ (zipD (rowD m f) (rowD m p))) _=_
 rw [e1]
 show R.bind (zdi (.lst ((mixL m f p c).map D.int))) _=_
 rw [zoG (k:=b+b+1) (by omega) mb]
 show R.bind (lcM (λd_2:D=>zim d_2 (.int (imax 1 (gcdF 0 (mixL m f p c):Nat)))) ((mixL m f p c).map D.int)) _=_
 have e2:imax 1 ((gcdF 0 (mixL m f p c):Nat):Int)=(byL m f p c:Nat):=by
  unfold imax byL
  split<;>omega
 rw [e2]
 have e3:lcM (λd_2:D=>zim d_2 (.int (byL m f p c:Nat))) ((mixL m f p c).map D.int)=.ok (rowD m λj=>(f j*p c-p j*f c) / (byL m f p c:Nat)):=by
  unfold mixL rowD
  rw [yaY]
  refine zfJ (enc:=D.int∘λj=>f j*p c-p j*f c) (List.range m) (λj _ => ?_) (by rw [yau]; exact hm)
  show need _ _=_
  refine zaz (yaf ?_)
  refine wide_div (b:=b+b+1+1) ?_ ?_ (by omega) (by omega)
  ·have:1<=byL m f p c:=Nat.le_max_left _ _
   omega
  ·show (byL m f p c:Nat)<_
   exact bs
 rw [e3]
 rfl
end VW.SX
namespace VW.SX
open PySem PySem.Spec L2 R
def lsD (K m:Nat) (T:Nat->Nat->Int):List D:=(List.range K).map λi=>D.lst (rowD m (T i))
def owD (K:Nat) (o:Nat->Nat):List D:=rowD K λi=>(o i:Nat)
theorem zkZ (K m:Nat) (T:Nat->Nat->Int):(lsD K m T).length=K:=by unfold lsD; rw [yac,yau]
theorem zq0 {K m:Nat} {T:Nat->Nat->Int} {i:Nat} (h:i<K):(lsD K m T)[i]?=some (.lst (rowD m (T i))):=by
 unfold lsD
 rw [yaI,yaU h]
 rfl
theorem zdu (m:Nat) (g:Nat->D):enD ((List.range m).map g)=(List.range m).map λj=>D.tup [.int (j:Nat),g j]:=by
 refine yaS λi => ?_
 unfold enD
 rw [List.getElem?_mapIdx,yaI,yaI]
 by_cases h:i<m
 ·rw [yaU h]
  rfl
 ·rw [yar (by rw [yau]; omega)]
  rfl
theorem r_tg (m:Nat) (f:Nat->Int):n_tg (.lst (rowD m f))=.ok (match (List.range m).find? (λj=>decide (0<f j)) with
 | some j=>.int (j:Nat)
 | none=>.non):=by
 unfold n_tg
 show R.forN zky _ (enD (rowD m f)) ()=_
 unfold rowD
 rw [zdu]
 generalize List.range m=l
 induction l with
 | nil=>rfl
 | cons j l ih =>
   have e:∀ KK,zky (.tup [.int (j:Nat),.int (f j)]) () KK=if decide (0<f j)=true then .ok (.int (j:Nat)) else KK ():=λKK=>rfl
   show zky _ () _=_
   rw [e,ybu]
   by_cases c:0<f j
   ·rw [yaf c]
    rfl
   ·rw [yaD c]
    exact ih
theorem zuZ {m s:Nat} {f:Nat->Int} (h:(List.range m).find? (λj=>decide (0<f j))=some s):s<m/\0<f s/\∀ j,j<s->f j<=0:=by
 obtain ⟨h1,as,bs,h2,h3⟩:=List.find?_eq_some_iff_append.mp h
 have hm:s∈List.range m:=by rw [h2]; exact yag _ yaa
 have hs:=yaA.mp hm
 refine ⟨hs,yao h1,λj hj => ?_⟩
 have el:(List.range m)[as.length]?=some s:=by rw [h2]; simp
 have e2:as.length=s:=by
  by_cases q:as.length<m
  ·rw [yaU q] at el
   exact yaT el
  ·rw [yar (by rw [yau]; omega)] at el
   cases el
 have ej:(List.range m)[j]?=some j:=yaU (by omega)
 rw [h2,ybl (by omega)] at ej
 have:=h3 j (yaL ej)
 simp only [yb9,decide_eq_false_iff_not] at this
 omega
theorem zoH {m:Nat} {f:Nat->Int} (h:(List.range m).find? (λj=>decide (0<f j))=none):∀ j,j<m->f j<=0:=λj hj=>by
 have:=yb5.mp h j (yaA.mpr hj)
 simp only [yaq] at this
 omega
theorem zq1:∀ (qs:List (Int×Int)) (q:Int×Int),mnP q qs∈q::qs/\∀ x∈q::qs,(mnP q qs).1<=x.1
 | [],q=>⟨yaa,λx hx=>by
   cases yah.mp hx
   exact Int.le_refl _⟩
 | y::qs,q=>by
   have step:mnP q (y::qs)=mnP (if PySem.W.dataLt (prP y) (prP q) then y else q) qs:=rfl
   have e:PySem.W.dataLt (prP y) (prP q)=ltE y q:=zwy y q
   rw [step,e]
   obtain ⟨h1,h2⟩:=zq1 qs (if ltE y q then y else q)
   have h3:=h2 _ yaa
   by_cases c:ltE y q=true
   ·rw [yaw c] at h1 h2 h3 ⊢
    have c':=yao c
    refine ⟨yab _ h1,λx hx => ?_⟩
    rcases yap.mp hx with rfl | hx
    ·rcases c' with c' | ⟨c',_⟩<;>omega
    ·exact h2 x hx
   ·rw [yaz c] at h1 h2 h3 ⊢
    have c':¬ (y.1<q.1\/(y.1=q.1/\y.2<q.2)):=λz=>c (yaf z)
    refine ⟨?_,λx hx => ?_⟩
    ·rcases yap.mp h1 with h1 | h1
     ·rw [h1]; exact yaa
     ·exact yab _ (yab _ h1)
    ·rcases yap.mp hx with rfl | hx
     ·exact h3
     ·rcases yap.mp hx with rfl | hx
      ·have:¬ x.1<q.1:=λz=>c' (.inl z)
       omega
      ·exact h2 x (yab _ hx)
theorem zq2:∀ qs:List (Int×Int),prsI (qs.map eD)=some qs
 | []=>rfl
 | q::qs=>by
   show (match prI (eD q),prsI (qs.map eD) with
    | some q,some qs=>some (q::qs)
    | _,_=>none)=_
   rw [zq2 qs]
   rfl
theorem zu0 (qs:List (Int×Int)):canD (.lst (qs.map eD))=true:=zuz (enc:=eD) (p:=eP) (λ_=>rfl) (λa=>by simp [eP,PyData.canLay0,PyData.canLayAll0]) (λa=>by simp [eP,PyData.depth,PyData.depthAll]) qs
theorem r_tv {K m:Nat} {T:Nat->Nat->Int} {o:Nat->Nat} {s:Nat} (hK:K<=1000) (hs:s<m) :
 ((∀ i,i<K->T i s<=0)/\n_tv (lsD K m T) (owD K o) (.int (s:Nat))=.ok .non) \/
 ∃ r,r<K/\0<T r s/\(∀ i,i<K->0<T i s->o r<=o i)/\n_tv (lsD K m T) (owD K o) (.int (s:Nat))=.ok (.int (r:Nat)):=by
 let qs:List (Int×Int):=((List.range K).filter λi=>decide (0<T i s)).map λi=>(((o i:Nat):Int),(i:Int))
 have e1:lcF (λd_1:D=>R.bind (nUn2 d_1) λp_1=>R.bind (nIx p_1.2 (.int (s:Nat))) λt_1=>R.bind (nOrd .gt t_1 (.int 0)) λt_2 =>
  if t_2=true then (R.bind (nIx (.lst (owD K o)) p_1.1) λt_3=>.ok ((some (.tup [t_3,p_1.1]))):R (Option D)) else .ok none) (enD (lsD K m T))=.ok (qs.map eD):=by
  unfold lsD
  rw [zdu]
  rw [zpA (g:=λi=>if decide (0<T i s)=true then some (eD (((o i:Nat):Int),(i:Int))) else none) (List.range K) (λi hi => ?_) (by rw [yau]; exact hK)]
  ·show R.ok _=R.ok (List.map eD (List.map _ _))
   rw [yaY]
   congr 1
   generalize List.range K=l
   induction l with
   | nil=>rfl
   | cons i l ih =>
     rw [yci,ycJ]
     by_cases c:0<T i s
     ·rw [yaf c]
      exact ya8 _ ih
     ·rw [yaD c]
      exact ih
  ·have hi:=yaA.mp hi
   show R.bind (nIx (.lst (rowD m (T i))) (.int (s:Nat))) _=_
   rw [zdt hs]
   show (if decide (0<T i s)=true then R.bind (nIx (.lst (owD K o)) (.int (i:Nat))) _ else R.ok none)=_
   by_cases c:0<T i s
   ·rw [yaf c,yaw rfl,yaw rfl]
    unfold owD
    rw [zdt hi]
    rfl
   ·rw [yaD c]
    rfl
 have e2:n_tv (lsD K m T) (owD K o) (.int (s:Nat))=R.bind (nEq false (.lst (qs.map eD)) (.lst ([]:List D))) λt_4=>if t_4=true then .ok .non else R.bind (zrH (.lst (qs.map eD))) λt_5=>R.bind (nIx t_5 (.int 1)) λt_6=>.ok t_6:=by
  unfold n_tv
  rw [e1]
  rfl
 have e3:nEq false (.lst (qs.map eD)) (.lst ([]:List D))=.ok (qs.map eD).isEmpty:=nE_nil (zu0 qs)
 rw [e3] at e2
 cases hq:qs with
 | nil =>
   left
   refine ⟨λi hi => ?_,?_⟩
   ·have h:=ycj.mp hq
    have:=List.filter_eq_nil_iff.mp h i (yaA.mpr hi)
    simp only [yaq] at this
    omega
   ·rw [e2,hq]
    rfl
 | cons q rest =>
   right
   obtain ⟨h1,h2⟩:=zq1 rest q
   rw [← hq] at h1 h2
   obtain ⟨r,hr,er⟩:=yan.mp h1
   obtain ⟨hr1,hr2⟩:=ybk.mp hr
   refine ⟨r,yaA.mp hr1,yao hr2,λi hi hp => ?_,?_⟩
   ·have:=h2 _ (yan.mpr ⟨i,ybk.mpr ⟨yaA.mpr hi,yaf hp⟩,rfl⟩)
    rw [← er] at this
    have this:((o r:Nat):Int)<=((o i:Nat):Int):=this
    omega
   ·rw [e2,hq]
    show R.bind (zrH (.lst ((q::rest).map eD))) _=_
    have e4:zrH (.lst ((q::rest).map eD))=.ok (.tup [.int (mnP q rest).1,.int (mnP q rest).2]):=by
     show (ofO (prsI ((q::rest).map eD))).bind _=_
     rw [zq2]
     rfl
    rw [e4,← er]
    rfl
def newT (m:Nat) (T:Nat->Nat->Int) (r s:Nat):Nat->Nat->Int:=λi j=>if i=r then T r j else mix T r s i j / (byL m (T i) (T r) s:Nat)
theorem zzW {K:Nat} {o:Nat->Nat} {r s:Nat} (hr:r<K):(owD K o).set r (.int (s:Nat))=owD K (set' o r s):=by
 refine yaS λi => ?_
 by_cases h:i<K
 ·unfold owD
  rw [zds h]
  by_cases c:r=i
  ·subst c
   rw [yaM (by rw [rowD_len]; exact h)]
   unfold set'
   rw [yaw rfl]
  ·rw [yaK c,zds h]
   unfold set'
   rw [yaz (λz=>c z.symm)]
 ·rw [yar (by rw [ybr]; unfold owD; rw [rowD_len]; omega),yar (by unfold owD; rw [rowD_len]; omega)]
theorem zq3 {xs:List D} {k:Nat} {d:D} (h:k<xs.length):nStL xs (.int (k:Nat)) d=.ok (xs.set k d):=zzK h
theorem r_tt {K m b:Nat} {T:Nat->Nat->Int} {o:Nat->Nat} {r s:Nat} (hm:m<=1000) (hs:s<m) (hr:r<K) (hb:b<=4400) (b0:0<b) (hT:∀ i,i<=K->∀ j,j<m->(T i j).natAbs<2 ^ b) :
 n_tt (lsD K m T) (owD K o) (.lst (rowD m (T K))) (.int (r:Nat)) (.int (s:Nat))=.ok (rowD m (newT m T r s K),lsD K m (newT m T r s),owD K (set' o r s)):=by
 have cl:∀ i,i<=K->i≠r->zcD (.lst (rowD m (T i))) (.lst (rowD m (T r))) (.int (s:Nat))=.ok (rowD m (newT m T r s i)):=λi hi ne=>by
  rw [zuY hm hs hb b0 (hT i hi) (hT r (by omega))]
  congr 1
  exact zgH λj _=>by
   unfold newT mix
   rw [yaz ne]
 let st:Nat->List D:=λk=>lsD K m λi=>if i<k then newT m T r s i else T i
 obtain ⟨s2,e1,e2⟩:=zcs (body:=zkz (.int (r:Nat)) (.lst (rowD m (T r))) (.int (s:Nat))) (λk l=>l=st k) (ds:=enD (lsD K m T)) (s:=lsD K m T) 0 (by
  show lsD K m T=lsD K m λi=>if i<0 then _ else T i
  unfold lsD
  exact ybP λi _=>by
   show _=D.lst (rowD m (if i<0 then newT m T r s i else T i))
   rw [yaz (ya0 _)]) λj d l hd hl=>by
  subst hl
  rw [ya4] at *
  unfold lsD at hd
  rw [zdu,yaI] at hd
  have hj:j<K:=by
   refine yaJ λc => ?_
   rw [yar (by rw [yau]; omega)] at hd
   cases hd
  rw [yaU hj] at hd
  cases hd
  have step:st (j+1)=(st j).set j (.lst (rowD m (newT m T r s j))):=by
   refine yaS λi => ?_
   by_cases h:i<K
   ·show (lsD K m _)[i]?=((lsD K m _).set j _)[i]?
    rw [zq0 h]
    by_cases c:j=i
    ·subst c
     rw [yaM (by rw [zkZ]; exact h),yaw (by omega)]
    ·rw [yaK c,zq0 h]
     by_cases c2:i<j
     ·rw [yaw c2,yaw (by omega)]
     ·rw [yaz c2,yaz (by omega)]
   ·rw [yar (by show (lsD K m _).length<=i; rw [zkZ]; omega),yar (by rw [ybr]; show (lsD K m _).length<=i; rw [zkZ]; omega)]
  have ev:zkz (.int (r:Nat)) (.lst (rowD m (T r))) (.int (s:Nat)) (.tup [.int (j:Nat),.lst (rowD m (T j))]) (st j)=R.bind (nEq true (.int (j:Nat)) (.int (r:Nat))) λt_3=>if t_3=true then R.bind (zcD (.lst (rowD m (T j))) (.lst (rowD m (T r))) (.int (s:Nat))) λt_4=>R.bind (nStL (st j) (.int (j:Nat)) (.lst t_4)) λlines_2=>.ok lines_2 else .ok (st j):=rfl
  rw [zlD] at ev
  by_cases c:j=r
  ·refine ⟨st j,?_,?_⟩
   ·rw [ev,yaw rfl,yaf (by rw [c])]
    rfl
   ·rw [step]
    refine (yaS λi => ?_)
    by_cases c2:j=i
    ·subst c2
     rw [yaM (by show j<(lsD K m _).length; rw [zkZ]; exact hj)]
     show (lsD K m _)[j]?=_
     rw [zq0 hj,yaz (by omega)]
     have:rowD m (T j)=rowD m (newT m T r s j):=zgH λx _=>by
      unfold newT
      rw [yaw c,c]
     rw [this]
    ·rw [yaK c2]
  ·refine ⟨_,?_,step.symm⟩
   rw [ev,yaw rfl,yaD (by omega)]
   show R.bind (zcD _ _ _) _=_
   rw [cl j (by omega) c]
   show R.bind (nStL (st j) (.int (j:Nat)) _) _=_
   rw [zq3 (by show j<(lsD K m _).length; rw [zkZ]; exact hj)]
   rfl
 have e3:s2=lsD K m (newT m T r s):=by
  rw [e2,ya4]
  unfold lsD
  rw [zdu,yac,yau]
  refine ybP λi hi => ?_
  show D.lst (rowD m (if i<K then newT m T r s i else T i))=_
  rw [yaw (yaA.mp hi)]
 unfold n_tt
 rw [zkg (atI_n (zq0 hr))]
 show R.bind (R.forS (zkz (.int (r:Nat)) (.lst (rowD m (T r))) (.int (s:Nat))) (enD (lsD K m T)) (lsD K m T)) _=_
 rw [e1,e3]
 show R.bind (zcD (.lst (rowD m (T K))) (.lst (rowD m (T r))) (.int (s:Nat))) _=_
 rw [cl K (yaj _) (by omega)]
 show R.bind (nStL (owD K o) (.int (r:Nat)) (.int (s:Nat))) _=_
 rw [zq3 (by unfold owD; rw [rowD_len]; exact hr),zzW hr]
 rfl
end VW.SX
namespace VW.SX
open PySem PySem.Spec L2 R
theorem zq4 {m c:Nat} {f:Nat->Int} {v:Int} (hc:c<m):(rowD m f).set c (.int v)=rowD m λj=>if j=c then v else f j:=by
 refine yaS λi => ?_
 by_cases h:i<m
 ·rw [zds h]
  by_cases e:c=i
  ·subst e
   rw [yaM (by rw [rowD_len]; exact h),yaw rfl]
  ·rw [yaK e,zds h,yaz (λz=>e z.symm)]
 ·rw [yar (by rw [ybr,rowD_len]; omega),yar (by rw [rowD_len]; omega)]
theorem zk0 {n k:Nat} (f g:Nat->Int):rowD n f++rowD k g=rowD (n+k) λj=>if j<n then f j else g (j-n):=by
 refine yaS λi => ?_
 by_cases h:i<n
 ·rw [ybl (by rw [rowD_len]; exact h),zds h,zds (by omega),yaw h]
 ·rw [ybF (by rw [rowD_len]; omega),rowD_len]
  by_cases h2:i<n+k
  ·rw [zds (by omega),zds h2,yaz h]
  ·rw [yar (by rw [rowD_len]; omega),yar (by rw [rowD_len]; omega)]
theorem zu1 {m n:Nat} (f:Nat->Int) (h:n<=m):(rowD m f).take n=rowD n f:=by
 refine yaS λi => ?_
 rw [List.getElem?_take]
 split
 ·rename_i c
  rw [zds c,zds (by omega)]
 ·rw [yar (by rw [rowD_len]; omega)]
theorem zu2 {n k:Nat} (f:Nat->Int):(rowD (n+k) f).drop n=rowD k λj=>f (n+j):=by
 refine yaS λi => ?_
 rw [List.getElem?_drop]
 by_cases h:i<k
 ·rw [zds h,zds (by omega)]
 ·rw [yar (by rw [rowD_len]; omega),yar (by rw [rowD_len]; omega)]
theorem zzX (c:Int):∀ m:Nat,repD [.int c] (m:Int)=rowD m λ_=>c
 | m=>by
   unfold repD rowD
   rw [ybW]
   refine yaS λi => ?_
   have e:(List.replicate m [D.int c]).flatten=List.replicate m (D.int c):=by
    induction m with
    | zero=>rfl
    | succ m ih=>rw [ybD,ybL,ih,ybD]; rfl
   rw [e]
   by_cases h:i<m
   ·rw [List.getElem?_replicate_of_lt h,yaI,yaU h]
    rfl
   ·rw [yar (by rw [List.length_replicate]; omega),yar (by rw [yac,yau]; omega)]
theorem zk1 {c:Int} {m:Nat} (h:m<=100000):zrL (.lst [.int c]) (.int (m:Nat))=.ok (rowD m λ_=>c):=by
 show need _ _=_
 rw [zzX,zaz]
 simp only [yas,yaq,yaB,yba,ybW]
 have:sizeLine=16777216:=sizeLine_eq
 omega
theorem r_tm {n K m b:Nat} {T:Nat->Nat->Int} {o:Nat->Nat} {g:Nat->Int} {s:Nat} (hn:n<=m) (hm:m<=1000) (hK:K<=20) (hs:s<m) (hb:b<=4400) (b0:0<b) (hT:∀ i,i<K->∀ j,j<m->(T i j).natAbs<2 ^ b)
 (om:∀ i,i<K->o i<m) (pos:∀ i,i<K->0<T i (o i)) (inj:∀ i i',i<K->i'<K->o i=o i'->i=i') (so:∀ i,i<K->s≠o i) :
 ∃ (W:Int) (f:Nat→Int),0<W∧f s=W∧(∀ i,i<K→∃ q:Int,q*T i (o i)=W∧f (o i)=0-T i s*q)∧(∀ j,j<m→j≠s→(∀ i,i<K→j≠o i)→f j=0) ∧
   n_tm (lsD K m T) (owD K o) (.lst (rowD m g)) (.int (n:Nat)) (.int (s:Nat))=.ok (.tup (rowD n f)):=by
 have hat:∀ j d,(enD (lsD K m T))[j]?=some d->j<K/\d=.tup [.int (j:Nat),.lst (rowD m (T j))]:=λj d hd=>by
  unfold lsD at hd
  rw [zdu,yaI] at hd
  have hj:j<K:=by
   refine yaJ λc => ?_
   rw [yar (by rw [yau]; omega)] at hd
   cases hd
  rw [yaU hj] at hd
  cases hd
  exact ⟨hj,rfl⟩
 have pw:∀ a c:Nat,a<=c->2 ^ a<=2 ^ c:=λa c h=>Nat.pow_le_pow_right (by omega) h
 have bk:∀ k,k<K->b*k+1+b<=100000:=λk hk=>by
  have:b*k<=4400*20:=ybq hb (by omega)
  omega
 obtain ⟨sW,e1,W,rfl,W0,Wb,Wd⟩:=zcs (body:=zkB (.lst (owD K o))) (λk st=>∃ W:Nat,st=D.int (W:Nat)/\0<W/\W<2 ^ (b*k+1)/\∀ i,i<k->T i (o i) ∣ (W:Int)) (ds:=enD (lsD K m T)) (s:=.int 1) 0
  ⟨1,rfl,by omega,by rw [Nat.mul_zero]; decide,λi h=>absurd h (ya0 _)⟩ λj d st hd hl=>by
  obtain ⟨hj,rfl⟩:=hat j d hd
  rw [ya4] at *
  obtain ⟨W,rfl,W0,Wb,Wd⟩:=hl
  obtain ⟨mn,hmn⟩:∃ mn:Nat,T j (o j)=mn:=⟨(T j (o j)).toNat,by have:=pos j hj; omega⟩
  have mn0:0<mn:=by have:=pos j hj; omega
  have mnb:mn<2 ^ b:=by have:=hT j hj (o j) (om j hj); rw [hmn] at this; exact this
  have hp:=pw b (b*j+1+b) (by omega)
  have hp2:=pw (b*j+1) (b*j+1+b) (by omega)
  have g1:=Nat.gcd_le_right W mn0
  have g0:0<Nat.gcd W mn:=Nat.gcd_pos_of_pos_left _ W0
  have ee:((W:Int)*(mn:Int)) / ((Nat.gcd W mn:Nat):Int)=((Nat.lcm W mn:Nat):Int):=by
   unfold Nat.lcm
   rw [Int.natCast_ediv,Int.natCast_mul]
  refine ⟨.int ((Nat.lcm W mn:Nat):Int),?_,Nat.lcm W mn,rfl,Nat.lcm_pos W0 mn0,?_,λi hi => ?_⟩
  ·have ev:zkB (.lst (owD K o)) (.tup [.int (j:Nat),.lst (rowD m (T j))]) (.int (W:Nat))=R.bind (nIx (.lst (owD K o)) (.int (j:Nat))) λt_1=>R.bind (nIx (.lst (rowD m (T j))) t_1) λt_2=>R.bind (zgL (.int (W:Nat)) t_2) λt_3=>R.bind (zdi (.lst [.int (W:Nat),t_2])) λt_4=>R.bind (zim t_3 t_4) λt_5=>.ok t_5:=rfl
   rw [ev]
   unfold owD
   rw [zdt hj]
   show R.bind (nIx (.lst (rowD m (T j))) (.int (o j:Nat))) _=_
   rw [zdt (om j hj),hmn]
   show R.bind (zgL (.int (W:Nat)) (.int (mn:Nat))) _=_
   have em:zgL (.int ((W:Nat):Int)) (.int ((mn:Nat):Int))=.ok (.int ((W:Int)*(mn:Int))):=zaz (yaf (wide_mul (a:=b*j+1) (b:=b) Wb mnb (by omega) b0 (by have:=bk j hj; omega)))
   rw [em]
   show R.bind (zdi (.lst ([(W:Int),(mn:Int)].map D.int))) _=_
   rw [zoG (k:=b*j+1+b) (bk j hj) (λx hx=>by
    rcases yap.mp hx with rfl | hx
    ·show W<_; omega
    ·cases yah.mp hx
     show mn<_; omega)]
   have eg:gcdF 0 [(W:Int),(mn:Int)]=Nat.gcd W mn:=by
    show Nat.gcd (Nat.gcd 0 W) mn=_
    rw [Nat.gcd_zero_left]
   rw [eg]
   show R.bind (zim (.int ((W:Int)*(mn:Int))) (.int ((Nat.gcd W mn:Nat):Int))) _=_
   have ed:zim (.int ((W:Int)*(mn:Int))) (.int ((Nat.gcd W mn:Nat):Int))=.ok (.int (((W:Int)*(mn:Int)) / ((Nat.gcd W mn:Nat):Int))):=zaz (yaf (wide_div (b:=b) (by omega) (by show Nat.gcd W mn<_; omega) b0 (by omega)))
   rw [ed,ee]
   rfl
  ·have h1:Nat.lcm W mn<=W*mn:=Nat.div_le_self _ _
   have h2:W*mn<2 ^ (b*j+1)*2 ^ b:=Nat.mul_lt_mul'' Wb mnb
   rw [← Nat.pow_add] at h2
   have:b*(j+1)+1=b*j+1+b:=by rw [Nat.mul_succ]; omega
   rw [this]
   omega
  ·by_cases c:i=j
   ·subst c
    rw [hmn]
    exact ycG.mpr (Nat.dvd_lcm_right W mn)
   ·exact Int.dvd_trans (Wd i (by omega)) (ycG.mpr (Nat.dvd_lcm_left W mn))
 have hlen:(enD (lsD K m T)).length=K:=by unfold lsD; rw [zdu,yac,yau]
 rw [hlen,ya4] at Wb Wd
 have Kb:b*K+1<=100000:=by
  have:b*K<=4400*20:=ybq hb hK
  omega
 obtain ⟨l2,e2,f,rfl,f1,f2,f3⟩:=zcs (body:=zkC (.int (s:Nat)) (.lst (owD K o)) (.int (W:Nat))) (λk l=>∃ f:Nat->Int,l=rowD m f/\f s=W/\(∀ i,i<k->∃ q:Int,q*T i (o i)=W/\f (o i)=0-T i s*q)/\∀ j,j<m->j≠s->(∀ i,i<k->j≠o i)->f j=0)
  (ds:=enD (lsD K m T)) (s:=(rowD m λ_=>0).set s (.int (W:Nat))) 0 ⟨λj=>if j=s then W else 0,zq4 hs,yaw rfl,λi h=>absurd h (ya0 _),λj _ h _=>yaz h⟩ λj d l hd hl=>by
  obtain ⟨hj,rfl⟩:=hat j d hd
  rw [ya4] at *
  obtain ⟨f,rfl,f1,f2,f3⟩:=hl
  obtain ⟨q,hq⟩:=Wd j hj
  have p0:=pos j hj
  have eq1:(W:Int) / T j (o j)=q:=by rw [hq,Int.mul_ediv_cancel_left _ (by omega)]
  have q0:0<q:=by
   refine zoF p0 ?_
   rw [← hq]
   omega
  have qle:q.natAbs<=W:=by
   have h1:(W:Int).natAbs=(T j (o j)).natAbs*q.natAbs:=by rw [hq,ycu]
   rw [Int.natAbs_natCast] at h1
   rw [h1]
   exact ybE _ (by omega)
  refine ⟨_,?_,λi=>if i=o j then 0-T j s*q else f i,zq4 (om j hj),?_,λi hi => ?_,λi h1 h2 h3 => ?_⟩
  ·have ev:zkC (.int (s:Nat)) (.lst (owD K o)) (.int (W:Nat)) (.tup [.int (j:Nat),.lst (rowD m (T j))]) (rowD m f)=R.bind (nIx (.lst (rowD m (T j))) (.int (s:Nat))) λt_8=>R.bind (nIx (.lst (owD K o)) (.int (j:Nat))) λt_9=>R.bind (nIx (.lst (rowD m (T j))) t_9) λt_10=>R.bind (zim (.int (W:Nat)) t_10) λt_11=>R.bind (zgL t_8 t_11) λt_12=>R.bind (nSub (.int 0) t_12) λt_13=>R.bind (nIx (.lst (owD K o)) (.int (j:Nat))) λt_14=>R.bind (nStL (rowD m f) t_14 t_13) λfound_2=>.ok found_2:=rfl
   rw [ev,zdt hs]
   have ow:nIx (.lst (owD K o)) (.int (j:Nat))=.ok (.int (o j:Nat)):=by unfold owD; rw [zdt hj]
   rw [ow]
   show R.bind (nIx (.lst (rowD m (T j))) (.int (o j:Nat))) _=_
   rw [zdt (om j hj)]
   show R.bind (zim (.int (W:Nat)) (.int (T j (o j)))) _=_
   have ed:zim (.int (W:Nat)) (.int (T j (o j)))=.ok (.int q):=by
    have h:zim (.int (W:Nat)) (.int (T j (o j)))=.ok (.int ((W:Int) / T j (o j))):=zaz (yaf (wide_div (b:=b) p0 (hT j hj _ (om j hj)) b0 (by omega)))
    rw [h,eq1]
   rw [ed]
   show R.bind (zgL (.int (T j s)) (.int q)) _=_
   have em:zgL (.int (T j s)) (.int q)=.ok (.int (T j s*q)):=zaz (yaf (wide_mul (a:=b) (b:=b*K+1) (hT j hj s hs) (by omega) b0 (by omega) (by omega)))
   rw [em]
   show R.bind (nStL (rowD m f) (.int (o j:Nat)) (.int (0-T j s*q))) _=_
   rw [zq3 (by rw [rowD_len]; exact om j hj)]
   rfl
  ·show (if s=o j then _ else f s)=_
   rw [yaz (so j hj),f1]
  ·by_cases c:i=j
   ·subst c
    exact ⟨q,by rw [yaZ]; exact hq.symm,yaw rfl⟩
   ·obtain ⟨q',h1,h2⟩:=f2 i (by omega)
    refine ⟨q',h1,?_⟩
    show (if o i=o j then _ else f (o i))=_
    rw [yaz λe=>c (inj i j (by omega) hj e),h2]
  ·show (if i=o j then _ else f i)=0
   rw [yaz (h3 j (by omega)),f3 i h1 h2 λi' hi'=>h3 i' (by omega)]
 rw [hlen,ya4] at f2 f3
 refine ⟨W,f,by omega,f1,f2,f3,?_⟩
 unfold n_tm
 show R.bind (R.forS (zkB (.lst (owD K o))) (enD (lsD K m T)) (.int 1)) _=_
 rw [e1]
 have el:nLen (.lst (rowD m g))=.ok (.int (m:Nat)):=by
  show (ofO (some (rowD m g).length)).bind _=_
  rw [rowD_len]
  rfl
 simp only [zab]
 rw [el]
 simp only [zab]
 rw [zk1 (by omega)]
 simp only [zab]
 rw [zq3 (by rw [rowD_len]; exact hs)]
 simp only [zab]
 show R.bind (R.forS (zkC (.int (s:Nat)) (.lst (owD K o)) (.int (W:Nat))) (enD (lsD K m T)) _) _=_
 rw [e2]
 simp only [zab]
 show R.ok (D.tup (cutD (rowD m f) none (some (n:Int))))=_
 unfold cutD
 rw [HT.sIx_none,HT.sIx_nat,rowD_len,ycN hn,List.drop_zero,Nat.sub_zero,zu1 f hn]
theorem nAddL_of {s t:List D} (h:s.length+t.length<=sizeLine):zii (.lst s) (.lst t)=.ok (s++t):=zaz (zdT h)
theorem nApp_of {xs:List D} {d:D} (h:xs.length<16777216):nApp xs d=.ok (xs++[d]):=zaz (yaf h)
theorem zu3 {xs:List D} {n:Nat} (h:xs.length=n):nLen (.lst xs)=.ok (.int (n:Nat)):=by
 subst h
 rfl
theorem zu4 (n:Nat):rngD 0 n=rowD n λk=>(k:Int):=by
 unfold rngD rowD
 exact ybP λk _=>by rw [ybO]
def zbW (n K:Nat) (A:Nat->Nat->Int):Nat->Nat->Int:=λk j=>if k=K then (if j<n then 1 else 0) else if j<n then A j k else if j-n=k then 1 else 0
theorem zzY {n K:Nat} {A:Nat->Nat->Int} (hn:n<=500) (hK:K<=500) {j:Nat} (hj:j<K) (L O:List D) (hL:L.length=j) (hO:O.length=j) :
 zkD (.lst ((List.range n).map λj=>D.lst (rowD K (A j)))) (.int (K:Nat)) (.int (j:Nat)) (L,O)=.ok (L++[.lst (rowD (n+K) (zbW n K A j))],O++[.int ((n+j:Nat):Int)]):=by
 have c1:lcM (λd_2:D=>nIx d_2 (.int (j:Nat))) ((List.range n).map λj=>D.lst (rowD K (A j)))=.ok (rowD n λi=>A i j):=zfJ (g:=λi=>D.int (A i j)) (List.range n) (λi _=>zdt hj) (by rw [yau]; omega)
 have c2:lcM (λd_3:D=>R.bind (nEq false d_3 (.int (j:Nat))) λt_3=>zk6 (.bl t_3)) (rowD K λk=>(k:Int))=.ok (rowD K λk=>if k=j then 1 else 0):=by
  unfold rowD
  refine zfJ (enc:=λ(k:Nat)=>D.int (k:Int)) (g:=λ(k:Nat)=>D.int (if k=j then 1 else 0)) (List.range K) (λk _ => ?_) (by rw [yau]; omega)
  rw [zlD]
  show R.ok (D.int (if decide ((k:Int)=(j:Int))=true then 1 else 0))=_
  by_cases c:k=j
  ·rw [yaw (yaf (by rw [c])),yaw c]
  ·rw [yaz (by rw [yaq]; omega),yaz c]
 have c3:zii (.lst (rowD n λi=>A i j)) (.lst (rowD K λk=>if k=j then 1 else 0))=.ok (rowD (n+K) (zbW n K A j)):=by
  rw [nAddL_of (by rw [rowD_len,rowD_len,sizeLine_eq]; omega),zk0]
  congr 1
  refine zgH λi hi => ?_
  unfold zbW
  rw [yaz (by omega:¬ j=K)]
 have er:nR1 (.int (K:Nat))=.ok (rowD K λk=>(k:Int)):=by rw [zwn (by omega),zu4]
 have el:nLen (.lst ((List.range n).map λj=>D.lst (rowD K (A j))))=.ok (.int (n:Nat)):=zu3 (by rw [yac,yau])
 have ei:zcX (.lst ((List.range n).map λj=>D.lst (rowD K (A j))))=.ok ((List.range n).map λj=>D.lst (rowD K (A j))):=rfl
 unfold zkD
 rw [ei]
 simp only [zab]
 rw [c1]
 simp only [zab]
 rw [er]
 simp only [zab]
 rw [c2]
 simp only [zab]
 rw [c3]
 simp only [zab]
 rw [nApp_of (by omega)]
 simp only [zab]
 rw [el]
 simp only [zab]
 rw [zd9]
 simp only [zab]
 rw [nApp_of (by omega)]
 rfl
theorem r_tn {n K:Nat} {A:Nat->Nat->Int} (hn:n<=500) (hK:K<=500) :
 n_tn (.lst ((List.range n).map λj=>D.lst (rowD K (A j)))) (.int (K:Nat))=.ok (.int (n:Nat),lsD K (n+K) (zbW n K A),owD K (λi=>n+i),rowD (n+K) (zbW n K A K)):=by
 have el:nLen (.lst ((List.range n).map λj=>D.lst (rowD K (A j))))=.ok (.int (n:Nat)):=zu3 (by rw [yac,yau])
 have er:nR1 (.int (K:Nat))=.ok (rowD K λk=>(k:Int)):=by rw [zwn (by omega),zu4]
 have c6:zii (.lst (rowD n λ_=>1)) (.lst (rowD K λ_=>0))=.ok (rowD (n+K) (zbW n K A K)):=by
  rw [nAddL_of (by rw [rowD_len,rowD_len,sizeLine_eq]; omega),zk0]
  congr 1
  refine zgH λi hi => ?_
  unfold zbW
  rw [yaw rfl]
 obtain ⟨s2,e1,e2⟩:=zcs (body:=zkD (.lst ((List.range n).map λj=>D.lst (rowD K (A j)))) (.int (K:Nat))) (λk st=>st=((List.range k).map λi=>D.lst (rowD (n+K) (zbW n K A i)),(List.range k).map λ(i:Nat)=>D.int ((n+i:Nat):Int))) (ds:=rowD K λk=>(k:Int)) (s:=(([]:List D),([]:List D))) 0 rfl λj d st hd hst=>by
  subst hst
  rw [ya4] at *
  have hj:j<K:=by
   refine yaJ λc => ?_
   rw [yar (by rw [rowD_len]; omega)] at hd
   cases hd
  rw [zds hj] at hd
  cases hd
  refine ⟨_,zzY hn hK hj _ _ (by rw [yac,yau]) (by rw [yac,yau]),?_⟩
  rw [ycO,yaR,yaR]
  rfl
 rw [rowD_len,ya4] at e2
 unfold n_tn
 rw [el]
 simp only [zab]
 rw [er]
 simp only [zab]
 rw [e1,e2]
 simp only [zab]
 rw [zk1 (by omega)]
 simp only [zab]
 rw [zk1 (by omega)]
 simp only [zab]
 rw [c6]
 rfl
end VW.SX
namespace VW.SX
open PySem PySem.Spec L2 R
def Good (n K:Nat) (A:Nat->Nat->Int) (res:D):Prop :=
 (∃ w:Nat->Int,res=.tup [.str "weight",.tup (rowD K w)]/\(∀ k,k<K->0<=w k)/\∀ j,j<n->1<=sm K λk=>w k*A j k) \/
 ∃ f:Nat->Int,res=.tup [.str "none",.tup (rowD n f)]/\(∀ j,j<n->0<=f j)/\1<=sm n f/\∀ k,k<K->sm n (λj=>f j*A j k)<=0
section
variable {n K:Nat} {A:Nat->Nat->Int}
theorem zq5 {k j:Nat} (hk:k<K) (hj:j<n):zbW n K A k j=A j k:=by
 unfold zbW
 rw [yaz (by omega),yaw hj]
theorem zna (h1:1<=n) (hA:∀ j,j<n->∀ k,k<K->(A j k).natAbs<=128):Bas n K (zbW n K A) 128 where
 n1:=h1
 unit:=λk hk i hi=>by
  unfold zbW
  rw [yaz (by omega),yaz (by omega),Nat.add_sub_cancel_left]
 g1:=λj hj=>by
  unfold zbW
  rw [yaw rfl,yaw hj]
 g0:=λi hi=>by
  unfold zbW
  rw [yaw rfl,yaz (by omega)]
 bd:=λk hk j hj=>by
  unfold zbW
  split
  ·split<;>decide
  ·split
   ·rename_i h2
    exact hA j h2 k (by omega)
   ·split<;>decide
theorem zwO {B:Nat} (b:Bas n K (zbW n K A) B):Tab n K (zbW n K A) (zbW n K A) (λi=>n+i) (λi k=>if k=i then 1 else 0) where
 comb:=λi hi j hj=>by
  show _=sm (K+1) λk=>(if k=i then (1:Int) else 0)*zbW n K A k j
  rw [sm_one (k:=i) (by omega) λk hk ne=>by rw [yaz ne,ya6]]
  rw [yaw rfl,ycc]
 yl:=λi hi=>yaz (by omega)
 yg:=by
  show (0:Int)<if K=K then 1 else 0
  rw [yaw rfl]
  decide
 om:=λi hi=>by omega
 pos:=λi hi=>by rw [b.unit i hi i hi,yaw rfl]; decide
 zer:=λi hi i' hi' ne=>by
  by_cases c:i'=K
  ·rw [c]; exact b.g0 i hi
  ·rw [b.unit i' (by omega) i hi,yaz (ybR ne)]
 ns:=λw wK wz k hk=>by
  have:=wz k hk
  rw [zm8 b w hk] at this
  exact this
 prim:=λi hi d hd h=>by
  have one:d ∣ 1:=by
   by_cases c:i=K
   ·have:=h 0 (by have:=b.n1; omega)
    rw [c,b.g1 0 b.n1] at this
    exact this
   ·have:=h (n+i) (by omega)
    rw [b.unit i (by omega) i (by omega),yaw rfl] at this
    exact this
  have:=Int.le_of_dvd (by decide) one
  omega
theorem big_ok:∀ K,K<9->(K+1)*(gB (K+1) K 128*128)<2 ^ 2400:=by decide +kernel
theorem zzZ {T:Nat->Nat->Int} {o:Nat->Nat} {Y:Nat->Nat->Int} {R:Nat->Nat->Int} {r s:Nat} (b:Bas n K R 128) (t:Tab n K R T o Y) (p:Piv n K T o r s):∃ Y',Tab n K R (newT (n+K) T r s) (set' o r s) Y':=by
 refine t.turn b p.r_lt p.s_lt p.r_pos (λj _=>by unfold newT; rw [yaw rfl]) λi hi ne => ?_
 have en:∀ j,newT (n+K) T r s i j=mix T r s i j / (byL (n+K) (T i) (T r) s:Nat):=λj=>by unfold newT; rw [yaz ne]
 obtain ⟨j0,hj0,nz⟩:=t.mix_nz b p.r_lt p.r_pos hi ne
 have mem:∀ j,j<n+K->mix T r s i j∈mixL (n+K) (T i) (T r) s:=λj hj=>yan.mpr ⟨j,yaA.mpr hj,rfl⟩
 have g0:0<gcdF 0 (mixL (n+K) (T i) (T r) s):=by
  refine Nat.pos_of_ne_zero λz=>nz ?_
  have:=(zjE (mixL (n+K) (T i) (T r) s) 0).2 _ (mem j0 hj0)
  rw [z] at this
  exact Int.zero_dvd.mp this
 have eb:byL (n+K) (T i) (T r) s=gcdF 0 (mixL (n+K) (T i) (T r) s):=by
  unfold byL
  omega
 have dv:∀ j,j<n+K->((byL (n+K) (T i) (T r) s:Nat):Int) ∣ mix T r s i j:=λj hj=>by
  rw [eb]
  exact (zjE _ 0).2 _ (mem j hj)
 have eg:∀ j,j<n+K->((byL (n+K) (T i) (T r) s:Nat):Int)*newT (n+K) T r s i j=mix T r s i j:=λj hj=>by
  rw [en,Int.mul_ediv_cancel' (dv j hj)]
 refine ⟨⟨_,by omega,eg⟩,λd hd h => ?_⟩
 obtain ⟨d',rfl⟩:∃ d':Nat,d=d':=⟨d.toNat,by omega⟩
 have h2:(byL (n+K) (T i) (T r) s)*d' ∣ gcdF 0 (mixL (n+K) (T i) (T r) s):=by
  refine zm9 _ 0 (Nat.dvd_zero _) λx hx => ?_
  obtain ⟨j,hj,rfl⟩:=yan.mp hx
  have hj:=yaA.mp hj
  obtain ⟨c,hc⟩:=h j hj
  have:=eg j hj
  rw [hc] at this
  refine ⟨c,?_⟩
  show T i j*T r s-T r j*T i s=_
  have e:mix T r s i j=T i j*T r s-T r j*T i s:=rfl
  rw [← e,← this,Int.natCast_mul,ya1]
 rw [← eb] at h2
 have h3:=Nat.le_of_dvd (by omega) h2
 have h4:byL (n+K) (T i) (T r) s*d'<=byL (n+K) (T i) (T r) s*1:=by rw [Nat.mul_one]; exact h3
 have h5:=Nat.le_of_mul_le_mul_left h4 (by omega)
 omega
def colD (m:Nat) (f:Nat->Int):D:=match (List.range m).find? (λj=>decide (0<f j)) with
 | some j=>.int (j:Nat)
 | none=>.non
theorem zxU {ls ow:List D} {g:Nat->Int} {c:D} (hn:K<=1000):zf6 (.int (n:Nat)) (ls,ow,.lst (rowD (n+K) g),c)=.ok (.tup [.str "weight",.tup (rowD K λk=>0-g (n+k))]):=by
 have e1:cutD (rowD (n+K) g) (some (n:Int)) none=rowD K λk=>g (n+k):=by
  unfold cutD
  rw [HT.sIx_none,HT.sIx_nat,rowD_len,ycN (by omega),zu2]
  rw [yb8 (by rw [rowD_len]; omega)]
 have e2:lcM (λd_1:D=>nSub (.int 0) d_1) (rowD K λk=>g (n+k))=.ok (rowD K λk=>0-g (n+k)):=by
  unfold rowD
  exact zfJ (enc:=λ(k:Nat)=>D.int (g (n+k))) (g:=λ(k:Nat)=>D.int (0-g (n+k))) (List.range K) (λk _=>rfl) (by rw [yau]; exact hn)
 unfold zf6
 show R.bind (lcM (λd_1:D=>nSub (.int 0) d_1) (cutD (rowD (n+K) g) (some (n:Int)) none)) _=_
 rw [e1,e2]
 rfl
theorem zxV (h1:1<=n) (hm:n+K<=60) (hK:K<=8) (hA:∀ j,j<n->∀ k,k<K->(A j k).natAbs<=128) :
 ∀ (N t:Nat),2 ^ (n+K)≤N+t→∀ (TT:Nat→Nat→Nat→Int) (oo:Nat→Nat→Nat) (rr ss:Nat→Nat),Run n K (zbW n K A) t TT oo rr ss →
   ∃ res,R.whileN (zfB (.int (n:Nat))) (zf6 (.int (n:Nat))) N (lsD K (n+K) (TT t),owD K (oo t),.lst (rowD (n+K) (TT t K)),colD (n+K) (TT t K))=.ok res/\Good n K A res
 | 0,t,hN,TT,oo,rr,ss,run=>absurd (run.short (zna h1 hA)) (by omega)
 | N+1,t,hN,TT,oo,rr,ss,run=>by
   have b:=zna (K:=K) h1 hA
   obtain ⟨Y,tb⟩:=run.tab t (yaj _)
   generalize hT:TT t=T at tb ⊢
   generalize ho:oo t=o at tb ⊢
   have bnd:∀ i,i<=K->∀ j,j<n+K->(T i j).natAbs<2 ^ 2400:=λi hi j hj=>ycm (tb.bound b hi hj) (big_ok K (by omega))
   unfold colD
   cases hc:(List.range (n+K)).find? (λj=>decide (0<T K j)) with
   | none =>
     refine ⟨.tup [.str "weight",.tup (rowD K λk=>0-T K (n+k))],?_,.inl ⟨λk=>0-T K (n+k),rfl,λk hk => ?_,λj hj => ?_⟩⟩
     ·exact (show zfB (.int (n:Nat)) (lsD K (n+K) T,owD K o,.lst (rowD (n+K) (T K)),.non) _ _=zf6 (.int (n:Nat)) (lsD K (n+K) T,owD K o,.lst (rowD (n+K) (T K)),.non) from rfl).trans (zxU (by omega))
     ·have:=zoH hc (n+k) (by omega)
      show 0<=0-T K (n+k)
      omega
     ·have h:=tb.weight b (zoH hc) hj
      have e:(sm K λk=>(0-T K (n+k))*zbW n K A k j)=sm K λk=>(0-T K (n+k))*A j k:=zaQ λk hk=>by rw [zq5 hk hj]
      rw [e] at h
      exact h
   | some s =>
     obtain ⟨s1,s2,s3⟩:=zuZ hc
     have ev:R.whileN (zfB (.int (n:Nat))) (zf6 (.int (n:Nat))) (N+1) (lsD K (n+K) T,owD K o,.lst (rowD (n+K) (T K)),.int (s:Nat))=R.bind (n_tv (lsD K (n+K) T) (owD K o) (.int (s:Nat))) λt_10=>R.bind (nIs false t_10 .non) λt_11=>if t_11=true then
      R.bind (n_tm (lsD K (n+K) T) (owD K o) (.lst (rowD (n+K) (T K))) (.int (n:Nat)) (.int (s:Nat))) λt_12=>.ok (.tup [(.str "none"),t_12])
      else R.bind (n_tt (lsD K (n+K) T) (owD K o) (.lst (rowD (n+K) (T K))) t_10 (.int (s:Nat))) λt_13=>R.bind (n_tg (.lst t_13.1)) λt_14=>R.whileN (zfB (.int (n:Nat))) (zf6 (.int (n:Nat))) N (t_13.2.1,t_13.2.2,(.lst t_13.1),t_14):=rfl
     show ∃ res,R.whileN (zfB (.int (n:Nat))) (zf6 (.int (n:Nat))) (N+1) (lsD K (n+K) T,owD K o,.lst (rowD (n+K) (T K)),.int (s:Nat))=.ok res/\_
     rw [ev]
     have so:∀ i,i<K->s≠o i:=λi hi e=>by
      have:=tb.zer i hi K (yaj _) (by omega)
      rw [← e] at this
      omega
     rcases r_tv (K:=K) (m:=n+K) (T:=T) (o:=o) (s:=s) (by omega) s1 with ⟨v1,v2⟩ | ⟨r,r1,r2,r3,v2⟩
     ·rw [v2]
      obtain ⟨W,f,W0,f1,f2,f3,e⟩:=r_tm (n:=n) (K:=K) (m:=n+K) (b:=2400) (T:=T) (o:=o) (g:=T K) (s:=s) (by omega) (by omega) (by omega) s1 (by omega) (by omega) (λi hi j hj=>bnd i (by omega) j hj) tb.om tb.pos (λi i' hi hi' e=>tb.inj hi hi' e) so
      have ray:Ray n K T o s W f:=⟨s1,s2,v1,W0,f1,f2,f3⟩
      refine ⟨.tup [.str "none",.tup (rowD n f)],?_,.inr ⟨f,rfl,λj hj=>ray.nonneg tb (by omega),ray.some b tb,λk hk => ?_⟩⟩
      ·show R.bind (n_tm _ _ _ _ _) _=_
       rw [e]
       rfl
      ·have h:=ray.lost b tb hk
       have e:sm n (λj=>f j*zbW n K A k j)=sm n λj=>f j*A j k:=zaQ λj hj=>by rw [zq5 hk hj]
       rw [e] at h
       exact h
     ·rw [v2]
      have pv:Piv n K T o r s:=⟨s1,s2,s3,r1,r2,r3⟩
      show ∃ res,R.bind (n_tt (lsD K (n+K) T) (owD K o) (.lst (rowD (n+K) (T K))) (.int (r:Nat)) (.int (s:Nat))) _=.ok res/\_
      rw [r_tt (b:=2400) (by omega) s1 r1 (by omega) (by omega) bnd]
      simp only [zab]
      rw [r_tg]
      simp only [zab]
      have tn:=zzZ b tb pv
      have:=zxV h1 hm hK hA N (t+1) (by omega) (λu=>if u<=t then TT u else newT (n+K) T r s) (λu=>if u<=t then oo u else set' o r s) (λu=>if u<t then rr u else r) (λu=>if u<t then ss u else s) {
       tab:=λu hu=>by
        by_cases c:u<=t
        ·obtain ⟨Y2,h⟩:=run.tab u c
         refine ⟨Y2,?_⟩
         rw [yaw c,yaw c]
         exact h
        ·rw [yaz c,yaz c]
         exact tn
       piv:=λu hu=>by
        by_cases c:u<t
        ·rw [yaw (by omega),yaw (by omega),yaw c,yaw c]
         exact run.piv u c
        ·have e:u=t:=by omega
         rw [yaw (by omega),yaw (by omega),yaz c,yaz c,e,hT,ho]
         exact pv
       nxt:=λu hu i hi=>by
        by_cases c:u<t
        ·rw [yaw (by omega),yaw (by omega),yaw c,yaw c]
         exact run.nxt u c i hi
        ·have e:u=t:=by omega
         rw [yaz (by omega),yaw (by omega),yaz c,yaz c,e,ho] }
      rw [yaz (by omega),yaz (by omega)] at this
      exact this
theorem r_weighed {stock rules:D} (hm:n+K<=59) (hK:K<=8) (hA:∀ j,j<n->∀ k,k<K->(A j k).natAbs<=128) (hl:zgB stock rules=.ok ((List.range n).map λj=>D.lst (rowD K (A j)))) (hs:nLen stock=.ok (.int (K:Nat))) :
 ∃ res,zdk stock rules=.ok res/\Good n K A res:=by
 have e:zdk stock rules=R.whileN (zfB (.int (n:Nat))) (zf6 (.int (n:Nat))) zdj (lsD K (n+K) (zbW n K A),owD K (λi=>n+i),.lst (rowD (n+K) (zbW n K A K)),colD (n+K) (zbW n K A K)):=by
  unfold zdk
  rw [hl]
  simp only [zab]
  rw [hs]
  simp only [zab]
  rw [r_tn (by omega) (by omega)]
  simp only [zab]
  rw [r_tg]
  simp only [zab]
  rfl
 rw [e]
 by_cases h0:n=0
 ·subst h0
  have ec:colD (0+K) (zbW 0 K A K)=.non:=by
   unfold colD
   have:(List.range (0+K)).find? (λj=>decide (0<zbW 0 K A K j))=none:=yb5.mpr λj _=>by
    unfold zbW
    rw [yaw rfl,yaz (ya0 _)]
    decide
   rw [this]
  rw [ec]
  obtain ⟨N,eN⟩:∃ N,zdj=N+1:=⟨zdj-1,by unfold zdj; rfl⟩
  rw [eN]
  refine ⟨.tup [.str "weight",.tup (rowD K λk=>0-zbW 0 K A K (0+k))],?_,.inl ⟨λk=>0-zbW 0 K A K (0+k),rfl,λk hk => ?_,λj hj=>absurd hj (ya0 _)⟩⟩
  ·exact (show zfB (.int ((0:Nat):Int)) (lsD K (0+K) (zbW 0 K A),owD K (λi=>0+i),.lst (rowD (0+K) (zbW 0 K A K)),.non) _ _=zf6 (.int ((0:Nat):Int)) (lsD K (0+K) (zbW 0 K A),owD K (λi=>0+i),.lst (rowD (0+K) (zbW 0 K A K)),.non) from rfl).trans (zxU (n:=0) (by omega))
  ·show 0<=0-zbW 0 K A K (0+k)
   unfold zbW
   rw [yaw rfl,yaz (ya0 _)]
   decide
 ·have hp:2 ^ (n+K)<=zdj:=by
   unfold zdj
   exact Nat.pow_le_pow_right (by decide) (by omega)
  exact zxV (by omega) (by omega) hK hA zdj 0 (by omega) (λ_=>zbW n K A) (λ_ i=>n+i) (λ_=>0) (λ_=>0) ⟨λt _=>⟨_,zwO (zna (by omega) hA)⟩,λt h=>absurd h (ya0 _),λt h=>absurd h (ya0 _)⟩
end
end VW.SX
namespace VW
open PySem PySem.Spec PyProof.Rows L2 R
open SX (zdt zdu)
def nmAt (rows:List D) (k:Nat):Str:=zav (rows.getD k .non)
def cntW (ss:List Str) (n:Str):Nat:=ss.countP λs=>decide (s=n)
def bxD:D->List Str
 | .tup [_,.tup ds,_,_]=>ds.filterMap λd=>match d with
   | .str s=>some s
   | _=>none
 | _=>[]
def zld (rows:List D) (d:D) (k:Nat):Int:=match d with
 | .tup [V,W]=>(cntW (bxD V) (nmAt rows k):Int)-(cntW (bxD W) (nmAt rows k):Int)
 | _=>0
theorem zgm {α:Type} (l:List D) (g:D->α):l.map g=(List.range l.length).map λj=>g (l.getD j .non):=by
 refine yaS λi => ?_
 rw [yaI,yaI]
 by_cases h:i<l.length
 ·rw [yaU h,yak h]
  show _=some (g (l.getD i .non))
  rw [yaO,yak h]
  rfl
 ·rw [yar (by omega),yar (by rw [yau]; omega)]
  rfl
theorem zwP (a b:Str):PyData.eqv (.str a) (.str b)=decide (a=b):=by
 have h:=zjZ (x:=.str a) (y:=.str b) rfl rfl
 have e:eqD (.str a) (.str b)=PyData.eqv (.str a) (.str b):=rfl
 rw [e] at h
 rw [ybT,h,yaq]
 exact ⟨λz=>D.str.inj z,λz=>by rw [z]⟩
section
variable {rows:List D} {V:D} {O:List D} {ss:List Str} {ws:List Wire} {rs:List D}
theorem NetW.bx (h:NetW rows V O ss ws rs):bxD V=ss:=by
 rw [h.eq]
 show (ss.map D.str).filterMap _=ss
 induction ss with
 | nil=>rfl
 | cons s ss ih=>exact ya8 (s :: ·) (List.filterMap_map.trans (by
  show List.filterMap _ ss=ss
  have:((λd:D=>match d with
   | .str s=>some s
   | _=>none)∘D.str)=some:=rfl
  rw [this,List.filterMap_some]))
theorem zu5 (ss:List Str) (n:Str):cntW ss n<=ss.length:=List.countP_le_length
theorem zq6 (S:Stok rows) (h:NetW rows V O ss ws rs):zdD (.tup rows) V=.ok (SX.rowD rows.length λk=>(cntW ss (nmAt rows k):Int)):=by
 have few:=S.few
 have e1:lcM (λd_1:D=>R.bind (nUn2 d_1) λp_1=>R.bind (nIx V (.int 1)) λt_1=>R.bind (zts t_1) λu_1=>nTCn t_1 p_1.1) rows=.ok (rows.map λr=>.int (cntW ss (zav r):Int)):=zmP (by rw [zf0]; omega) λr hr=>by
  obtain ⟨n,ps,rfl,hn,_⟩:=S.good r hr
  have et:nIx V (.int 1)=.ok (.tup (ss.map D.str)):=by rw [h.eq]; exact zgU _ _ _
  have eo:zts (.tup (ss.map D.str))=.ok ():=by
   cases ss<;>rfl
  rw [zcr,zab,et,zab,eo,zab]
  dsimp only
  have epy:(D.str n).py=some (.str n):=rfl
  unfold nTCn
  dsimp only
  rw [epy,ztR]
  show need (inOk (.str n) (ss.map PyData.str)) (R.ok (D.int (((ss.map PyData.str).countP λz=>PyData.eqv z (.str n):Nat):Int)))=_
  have ok:inOk (.str n) (ss.map PyData.str)=true:=by
   obtain ⟨p,f1,f2,f3⟩:=(zio hn).py
   obtain ⟨ps',g1,g2,g3⟩:=zny (n:=0) (ds:=ss.map D.str) λd hd=>by
    obtain ⟨s,hs,rfl⟩:=yan.mp hd
    exact (zqX S (h.hss s hs)).py
   rw [ztR] at g1
   cases g1
   cases f1
   unfold inOk
   rw [f3,g3,yaf (show (PyData.str n).depth<=60 by omega)]
   rfl
  rw [zaz ok]
  congr 2
  show (((ss.map PyData.str).countP λz=>PyData.eqv z (.str n):Nat):Int)=(ss.countP λs=>decide (s=n):Nat)
  rw [List.countP_map,show ((λz=>PyData.eqv z (.str n))∘PyData.str)=λs=>decide (s=n) from funext λs=>zwP s n]
 unfold zdD
 rw [zcY,zab,e1,zab,zgm]
 rfl
theorem zxW (S:Stok rows) (h:NetW rows V O ss ws rs):zeu (.tup rows) V=.ok (SX.rowD rows.length λk=>(cntW ss (nmAt rows k):Int)):=by
 have few:=S.few
 have ls:=h.ls
 have e1:lcM (λd_1:D=>R.bind (nUn2 d_1) λp_1=>R.bind (nIx V (.int 1)) λt_1=>R.bind (zcX t_1) λds_2=>R.bind (lcF (λd_2:D=>R.bind (nEq false d_2 p_1.1) λt_2 =>
 if t_2=true then (.ok ((some d_2)):R (Option D)) else .ok none) ds_2) λxs_1=>nLen (.lst xs_1)) rows=.ok (rows.map λr=>.int (cntW ss (zav r):Int)):=zmP (by rw [zf0]; omega) λr hr=>by
  obtain ⟨n,ps,rfl,hn,_⟩:=S.good r hr
  have et:nIx V (.int 1)=.ok (.tup (ss.map D.str)):=by rw [h.eq]; exact zgU _ _ _
  rw [zcr,zab,et,zab,zcY,zab]
  dsimp only
  have e2:lcF (λd_2:D=>R.bind (nEq false d_2 (.str n)) λt_2=>if t_2=true then (.ok ((some d_2)):R (Option D)) else .ok none) (ss.map D.str)=.ok (ss.filterMap λs=>if s=n then some (.str s) else none):=zpA (enc:=D.str) ss (λs _=>by
   rw [zwk,zab]
   by_cases c:s=n
   ·rw [yaw (yaf c),yaw c]
   ·rw [yaz (by rw [yaD c]; exact yax),yaz c]) (by omega)
  rw [e2,zab,zbw]
  congr 3
  show _=cntW ss n
  unfold cntW
  clear e2 et h ls
  induction ss with
  | nil=>rfl
  | cons s ss ih =>
    rw [yci,List.countP_cons]
    by_cases c:s=n
    ·rw [yaw c,yaw (yaf c)]
     exact ya8 (· + 1) ih
    ·rw [yaz c,yaz (by rw [yaD c]; exact yax)]
     exact ih
 unfold zeu
 rw [zcY,zab,e1,zab,zgm]
 rfl
end
section
variable {rows:List D}
theorem zu6 {m:Nat} (hm:m<=1000) (f g:Nat->Int):lcM (λd_2:D=>R.bind (nUn2 d_2) λp_2=>R.bind (nIx (.lst (SX.rowD m g)) p_2.1) λt_3=>nSub p_2.2 t_3) (enD (SX.rowD m f))=.ok (SX.rowD m λk=>f k-g k):=by
 have e:enD (SX.rowD m f)=(List.range m).map λj=>D.tup [.int (j:Nat),.int (f j)]:=zdu m λj=>.int (f j)
 rw [e]
 refine zfJ (g:=λj=>D.int (f j-g j)) (List.range m) (λj hj => ?_) (by rw [yau]; exact hm)
 rw [zcr,zab]
 dsimp only
 rw [zdt (yaA.mp hj),zab,zmL]
theorem zpE {V W:D} {O O2:List D} {ss ss2:List Str} {ws ws2:List Wire} {rs rs2:List D} (hV:NetW rows V O ss ws rs) (hW:NetW rows W O2 ss2 ws2 rs2):zld rows (.tup [V,W])=λk=>(cntW ss (nmAt rows k):Int)-(cntW ss2 (nmAt rows k):Int):=by
 funext k
 show (cntW (bxD V) (nmAt rows k):Int)-(cntW (bxD W) (nmAt rows k):Int)=_
 rw [hV.bx,hW.bx]
theorem zlX {d:D} (h:zkY rows d) (k:Nat):(zld rows d k).natAbs<=128:=by
 obtain ⟨V,W,rfl,⟨O,ss,ws,rs,hV⟩,⟨O2,ss2,ws2,rs2,hW⟩⟩:=h
 rw [zpE hV hW]
 have l1:=zu5 ss (nmAt rows k)
 have l2:=zu5 ss2 (nmAt rows k)
 have l3:=hV.ls
 have l4:=hW.ls
 show ((cntW ss (nmAt rows k):Int)-(cntW ss2 (nmAt rows k):Int)).natAbs<=128
 omega
theorem r_lost (S:Stok rows) {d:D} (h:zkY rows d):zgF (.tup rows) d=.ok (SX.rowD rows.length (zld rows d)):=by
 have few:=S.few
 obtain ⟨V,W,rfl,⟨O,ss,ws,rs,hV⟩,⟨O2,ss2,ws2,rs2,hW⟩⟩:=h
 unfold zgF
 rw [zgU,zab,zxW S hW,zab,zgT,zab,zxW S hV,zab,zu6 (by omega),zab,zpE hV hW]
theorem zwQ (S:Stok rows) {rs:List D} (h:∀ d∈rs,zkY rows d) (lr:rs.length<=1000):zgB (.tup rows) (.lst rs)=.ok (rs.map λd=>.lst (SX.rowD rows.length (zld rows d))):=by
 have few:=S.few
 have st:∀ (rs acc:List D),(∀ d∈rs,zkY rows d)->acc.length+rs.length<=1000->R.forS (zfA (.tup rows)) rs acc=.ok (acc++rs.map λd=>.lst (SX.rowD rows.length (zld rows d))):=by
  intro rs
  induction rs with
  | nil =>
    intro acc _ _
    show R.ok acc=R.ok (acc++[])
    rw [yaQ]
  | cons d rs ih =>
    intro acc hr hl
    rw [yaB] at hl
    obtain ⟨V,W,e,⟨O,ss,ws,qs,hV⟩,⟨O2,ss2,ws2,qs2,hW⟩⟩:=hr d yaa
    have e1:zfA (.tup rows) d acc=.ok (acc++[.lst (SX.rowD rows.length (zld rows d))]):=by
     rw [e]
     unfold zfA
     rw [zcr,zab]
     dsimp only
     rw [zq6 S hW,zab,zq6 S hV,zab,zu6 (by omega),zab,nApp_of (by omega),zab,zpE hV hW]
    rw [zhM,e1,zab,ih _ (λx hx=>hr x (yab _ hx)) (by rw [yam]; show acc.length+1+_<=_; omega),yaH,yae]
    rfl
 unfold zgB
 rw [zfl,zab,st rs [] h (by rw [yba]; omega),zab,ybV]
theorem d_weighed (S:Stok rows) {rs:List D} (h:∀ d∈rs,zkY rows d) (lr:rs.length<=40):∃ res,zdk (.tup rows) (.lst rs)=.ok res/\SX.Good rs.length rows.length (λj=>zld rows (rs.getD j .non)) res:=by
 have few:=S.few
 refine SX.r_weighed (by omega) (by omega) (λj hj k _ => ?_) ?_ (zdg rows)
 ·refine zlX (h _ ?_) k
  rw [yaO,yak hj]
  exact List.getElem_mem hj
 ·rw [zwQ S h (by omega),zgm]
end
end VW
namespace VW
open PySem PySem.Spec PyProof.Rows L2 R
open SX (zdt zdu)
theorem zq7 (f:Nat->Int):∀ m:Nat,zhI (SX.rowD m f)=some ((List.range m).map f):=λm=>by
 unfold SX.rowD
 induction (List.range m) with
 | nil=>rfl
 | cons j l ih =>
   rw [yaH,yaH]
   show (zhI (l.map λj=>D.int (f j))).map (f j :: ·)=_
   rw [ih]
   rfl
theorem zpF (f:Nat->Int):∀ m:Nat,((List.range m).map f).sum=SX.sm m f
 | 0=>rfl
 | m+1=>by
   rw [ycO,yaR,List.sum_append,zpF f m]
   show SX.sm m f+(f m+0)=SX.sm m f+f m
   omega
theorem zq8 (m:Nat) (f:Nat->Int):nSum (.lst (SX.rowD m f))=.ok (.int (SX.sm m f)):=by
 unfold nSum
 dsimp only
 rw [zq7,← zpF]
 rfl
theorem zu7 (m:Nat) (f:Nat->Int):ztF (.tup (SX.rowD m f))=.ok (.int (SX.sm m f)):=by
 unfold ztF
 dsimp only
 rw [zq7,← zpF]
 rfl
theorem znb {m:Nat} (hm:m<=1000) (f:Nat->Int):Sm 1 (.tup (SX.rowD m f)):=zkh (by rw [SX.rowD_len]; exact hm) λd hd=>by
 obtain ⟨j,_,rfl⟩:=yan.mp hd
 exact zkq 0 _
theorem zoI {m:Nat} (hm:m<=1000) {f:Nat->Int} (h:∀ k,k<m->0<=f k):zc2 (.tup (SX.rowD m f)) (.int (m:Nat))=.ok true:=by
 unfold zc2
 have e:lcF (λd_1:D=>R.bind (nIsi "int" d_1) λt_4=>R.bind (orB (!t_4) (R.bind (nIsi "bool" d_1) λt_5=>orB t_5 (nOrd .lt d_1 (.int 0)))) λc_3 =>
  if c_3=true then (.ok ((some d_1)):R (Option D)) else .ok none) (SX.rowD m f)=.ok []:=by
  rw [zuP (g:=λ_=>none) (SX.rowD m f) (λd hd => ?_) (by rw [SX.rowD_len]; exact hm)]
  ·congr 1
   exact List.filterMap_eq_nil_iff.mpr λ_ _=>rfl
  ·obtain ⟨j,hj,rfl⟩:=yan.mp hd
   have hj:=yaA.mp hj
   have e1:nIsi "int" (.int (f j))=.ok true:=zzi (n:=0) (zkq 0 _)
   have e2:nIsi "bool" (.int (f j))=.ok false:=zwm (n:=0) (zkq 0 _)
   rw [e1,zab,e2,zab,zf1,zgR,zgR,zab,zwl,yaD (by have:=h j hj; omega)]
   rfl
 rw [zpi (znb hm f),zab,zdg,zab,SX.rowD_len,zwj,yaf (rfl:(m:Int)=m),zgR,zab]
 refine (yaz (by decide)).trans ?_
 rw [zcY,zab,e,zab]
 rfl
theorem zoJ {x a:Int} (h:a.natAbs<=128):nMul (.int x) (.int a)=.ok (.fz (.int (x*a))):=znU (by omega) (by omega)
section
variable {rows:List D}
theorem zwR {m:Nat} (hm:m<=1000) {w a:Nat->Int} {nm:D} (ha:∀ k,(a k).natAbs<=128) (h:1<=SX.sm m λk=>w k*a k) (K:Unit->R Bool):zeN (.tup [nm,.tup (SX.rowD m w)]) (.lst (SX.rowD m a)) () K=K ():=by
 unfold zeN
 have ez:nZip (.tup (SX.rowD m w)) (.lst (SX.rowD m a))=.ok ((List.range m).map λj=>D.tup [.int (w j),.int (a j)]):=by
  rw [← SX.zip_rows]
  rfl
 have el:lcM (λd_3:D=>R.bind (nUn2 d_3) λp_1=>R.bind (nMul p_1.1 p_1.2) λt_11=>.ok t_11.d) ((List.range m).map λj=>D.tup [.int (w j),.int (a j)])=.ok (SX.rowD m λj=>w j*a j):=zfJ (g:=λj=>D.int (w j*a j)) (List.range m) (λj _=>by
  rw [zcr,zab]
  dsimp only
  rw [zoJ (ha j),zab]
  rfl) (by rw [yau]; exact hm)
 rw [zgU,zab,ez,zab,el,zab,zq8,zab,zf1,zab,zwl,yaD (by omega)]
 rfl
theorem zwS {n m k:Nat} (hn:n<=1000) (hk:k<m) {f:Nat->Int} {A:Nat->Nat->Int} {nm:D} (hA:∀ j k,(A j k).natAbs<=128) (h:(SX.sm n λj=>f j*A j k)<=0) (K:Unit->R Bool) :
 zeO (.tup [nm,.tup (SX.rowD n f)]) ((List.range n).map λj=>D.lst (SX.rowD m (A j))) (.int (k:Nat)) () K=K ():=by
 unfold zeO
 have ez:nZip (.tup (SX.rowD n f)) (.lst ((List.range n).map λj=>D.lst (SX.rowD m (A j))))=.ok ((List.range n).map λj=>D.tup [.int (f j),.lst (SX.rowD m (A j))]):=by
  show R.ok (zipD (SX.rowD n f) _)=_
  unfold zipD SX.rowD
  rw [List.zip_map',yaY]
  rfl
 have el:lcM (λd_5:D=>R.bind (nUn2 d_5) λp_2=>R.bind (nIx p_2.2 (.int (k:Nat))) λt_24=>R.bind (nMul p_2.1 t_24) λt_25=>.ok t_25.d) ((List.range n).map λj=>D.tup [.int (f j),.lst (SX.rowD m (A j))])=.ok (SX.rowD n λj=>f j*A j k):=zfJ (g:=λj=>D.int (f j*A j k)) (List.range n) (λj _=>by
  rw [zcr,zab]
  dsimp only
  rw [zdt hk,zab,zoJ (hA j k),zab]
  rfl) (by rw [yau]; exact hn)
 rw [zgU,zab,ez,zab,el,zab,zq8,zab,zf1,zab,od_gt,yaD (by omega)]
 rfl
theorem zoK (S:Stok rows) {rs:List D} (h:∀ d∈rs,zkY rows d) (lr:rs.length<=40) {res:D} (g:SX.Good rs.length rows.length (λj=>zld rows (rs.getD j .non)) res):zc4 (.tup rows) (.lst rs) res=.ok true:=by
 have few:=S.few
 have lc:lcM (λd_1:D=>R.bind (zgF (.tup rows) d_1) λt_4=>.ok ((.lst t_4))) rs=.ok (rs.map λd=>.lst (SX.rowD rows.length (zld rows d))):=zmP (by rw [zf0]; omega) λd hd=>by rw [r_lost S (h d hd),zab]
 have small:∀ j k,(zld rows (rs.getD j .non) k).natAbs<=128:=λj k=>by
  by_cases hj:j<rs.length
  ·refine zlX (h _ ?_) k
   rw [yaO,yak hj]
   exact List.getElem_mem hj
  ·rw [yaO,yar (by omega)]
   show (0:Int).natAbs<=128
   decide
 unfold zc4
 rcases g with ⟨w,rfl,w0,w1⟩ | ⟨f,rfl,f0,f1,f2⟩
 ·have sm:Sm 2 (.tup [.str "weight",.tup (SX.rowD rows.length w)]):=sm_two ((show Sm 0 (.str "weight") from ⟨by decide,by decide +kernel⟩).mono (by decide)) (znb (by omega) w)
  rw [zpi sm,zab,zdg,zab]
  have e2:nEq true (.int (([D.str "weight",.tup (SX.rowD rows.length w)].length:Nat):Int)) (.int 2)=.ok false:=zwj _ _
  rw [e2,zgR,zab]
  refine (yaz yax).trans ?_
  rw [zfl,zab,lc,zab,zgT,zab,zwk,zab,zgU,zab,zdg,zab,zoI (by omega) w0,zmr,zab]
  refine (yaw (by decide)).trans ?_
  refine ybi (zkk λd hd K => ?_) rfl
  rw [zgm] at hd
  obtain ⟨j,hj,rfl⟩:=yan.mp hd
  exact zwR (by omega) (small j) (w1 j (yaA.mp hj)) K
 ·have sm:Sm 2 (.tup [.str "none",.tup (SX.rowD rs.length f)]):=sm_two ((show Sm 0 (.str "none") from ⟨by decide,by decide +kernel⟩).mono (by decide)) (znb (by omega) f)
  rw [zpi sm,zab,zdg,zab]
  have e2:nEq true (.int (([D.str "none",.tup (SX.rowD rs.length f)].length:Nat):Int)) (.int 2)=.ok false:=zwj _ _
  rw [e2,zgR,zab]
  refine (yaz yax).trans ?_
  have e3:(decide (("none" : Str) = "weight"))=false:=by decide +kernel
  have e4:nEq true (.str "none") (.str "none")=.ok false:=by rw [nN_ss]; rfl
  rw [zfl,zab,lc,zab,zgT,zab,zwk,zab,e3]
  show R.bind (.ok false) _=_
  rw [zab]
  refine (yaz yax).trans ?_
  rw [zab,e4,zab,zgU,zab,zbw,zab,zoI (by omega) f0,zab,zab,zu7,zab,zf1,zwl,yaD (by omega),zgR,zgR,zab]
  refine (yaz yax).trans ?_
  rw [zdg,zab,zwn (zuE (by omega)),zab]
  refine ybi (zkk λd hd K => ?_) rfl
  obtain ⟨k,hk,rfl⟩:=zqx hd
  rw [ybO,zgm]
  exact zwS (by omega) hk small (f2 k hk) K
theorem zu8 {n K:Nat} {A:Nat->Nat->Int} (hn:n<=1000) (hK:K<=1000) {res:D} (g:SX.Good n K A res):nEq true res res=.ok false:=by
 have key:∀ (t:Str) (m:Nat) (f:Nat->Int),m<=1000->Sm 0 (.str t)->nEq true (.tup [.str t,.tup (SX.rowD m f)]) (.tup [.str t,.tup (SX.rowD m f)])=.ok false:=λt m f hm ht=>by
  have s:Sm 2 (.tup [.str t,.tup (SX.rowD m f)]):=sm_two (ht.mono (by decide)) (znb hm f)
  have nb:nob (.tup [.str t,.tup (SX.rowD m f)])=true:=zfI λd hd=>by
   rcases yap.mp hd with rfl | hd
   ·rfl
   ·rw [yah.mp hd]
    exact zfI λd hd=>by
     obtain ⟨j,_,rfl⟩:=yan.mp hd
     rfl
  rw [zpz true s s (by decide) (by decide),yaw rfl,zqU nb]
  rfl
 rcases g with ⟨w,rfl,_⟩ | ⟨f,rfl,_⟩
 ·exact key _ _ _ hK ⟨by decide,by decide +kernel⟩
 ·exact key _ _ _ hn ⟨by decide,by decide +kernel⟩
theorem zsb (S:Stok rows) {rs:List D} (h:∀ d∈rs,zkY rows d):nEq true (.lst rs) (.lst rs)=.ok false:=by
 have sm:∀ d∈rs,Sm 5 d:=λd hd=>by
  obtain ⟨V,W,rfl,hV,hW⟩:=h d hd
  exact sm_two (NetS35.sm S hV).1 (NetS35.sm S hW).1
 have nb:∀ d∈rs,nob d=true:=λd hd=>by
  obtain ⟨V,W,rfl,hV,hW⟩:=h d hd
  refine zfI λd hd => ?_
  rcases yap.mp hd with rfl | hd
  ·exact (NetS35.sm S hV).2
  ·rw [yah.mp hd]
   exact (NetS35.sm S hW).2
 rw [ztI (zml (zm5 sm (by decide)) (zm5 sm (by decide))),yaw rfl,zqU (zzL nb)]
 rfl
theorem zwT {ns:List Int} {k:Int} (hk:0<=k) (K:Unit->R Bool):zaV (.scr ns) (.int k) () K=K ():=by
 obtain ⟨h0,e0⟩:=zow (ns:=ns) hk
 obtain ⟨rows,h1,e1,Fl⟩:=zuB h0
 obtain ⟨rs1,h2,e2,l1,r1⟩:=zoD Fl h1 false
 obtain ⟨h3,e3⟩:=zow (ns:=ns) (k:=k+1) (by omega)
 obtain ⟨i,h4,e4,i0,i1⟩:=zch h3 (m:=2) (by decide) (by decide)
 obtain ⟨rs2,h5,e5,l2,r2⟩:=zoD Fl h3 true
 have few:=Fl.st.few
 have e6:nEq false (.int i) (.int 1)=.ok (decide (i=1)):=znW _ _
 obtain ⟨rs,e7,lr,hr⟩:∃ rs,(if decide (i=1)=true then (R.bind (nInt (.int 2)) λi_2 =>
  R.bind (nSl (.lst rs1) none (some i_2)) λt_15 =>
  R.bind (nAdd (.int k) (.int 1)) λt_16 =>
  R.bind (zci (.scr ns) t_16.d) λt_17 =>
  R.bind (zdI t_17 (.tup rows) (.int 7) (.bl true)) λt_18 =>
  R.bind (zii t_15.d (.lst t_18.1)) λt_19 =>
  .ok t_19:R (List D)) else .ok rs1)=.ok rs/\rs.length<=40/\∀ d∈rs,zkY rows d:=by
  by_cases c:i=1
  ·have lc:=ztW rs1 none (some 2)
   refine ⟨cutD rs1 none (some 2)++rs2,?_,by rw [yam]; omega,λd hd => ?_⟩
   ·rw [yaw (yaf c),zlC,zab,ztH,zab,zd9,zab,fz_d,e3,zab,e5,zab,lst_d]
    dsimp only
    rw [nAddL_of (by omega),zab]
   ·rcases yay.mp hd with hd | hd
    ·exact r1 d (ztV hd)
    ·exact r2 d hd
  ·exact ⟨rs1,by rw [yaz (by rw [yaD c]; exact yax)],by omega,r1⟩
 obtain ⟨res,e8,g⟩:=d_weighed Fl.st hr lr
 obtain ⟨res0,e9,g0⟩:=d_weighed Fl.st (rs:=[]) (λ_ z=>nomatch z) (by show 0<=40; decide)
 have e10:=zoK Fl.st hr lr g
 have e11:=zoK Fl.st (rs:=[]) (λ_ z=>nomatch z) (by show 0<=40; decide) g0
 have s1:=zsb Fl.st hr
 have s2:=zu8 (by omega) (by omega) g
 unfold zaV
 rw [e0,zab,e1,zab]
 dsimp only
 rw [e2,zab,zd9,zab,fz_d,e3,zab,e4,zab]
 dsimp only
 rw [e6,zab]
 rw [zd9] at e7
 rw [e7,zab,znV,zab,e8,zab,e10,zab,s1,zab,zab,s2,zgR,zgR,zab]
 refine (yaz yax).trans ?_
 rw [e9,zab,e11,zab]
 exact yaz yax
theorem zz0 (ns:List Int) (hl:ns.length<=63):zaG (.scr ns)=.ok true:=by
 unfold zaG
 have em:nMx imax (.int 1) (.int (ns.length:Nat))=.ok (.int (imax 1 (ns.length:Nat))):=rfl
 have b1:1<=imax 1 (ns.length:Nat):=by
  unfold imax
  split<;>omega
 have b2:imax 1 (ns.length:Nat)<=63:=by
  unfold imax
  split<;>omega
 obtain ⟨ds,e,hd⟩:=zzM b1 b2
 rw [zqw,zab,em,zab,e,zab]
 exact zkk λd h K=>by
  obtain ⟨c,c0,rfl⟩:=hd d h
  exact zwT c0 K
end
end VW
set_option maxHeartbeats 8000000
namespace VW
open PySem PySem.Spec PyProof.Rows L2 R
namespace LK35
theorem law_true (ns:List Int) (hl:ns.length<=63):zaG (.scr ns)=.ok true:=zz0 ns hl
section
variable {P:Program} {w:World} {K:PySem.W.Frag} {mg:Str->Option Value} {base:Heap} {xr:Xn->Value->Option Addr->Hp->Prop}
abbrev zja:List Str:=["stock", "net", "kind", "ports"]
theorem zfK:FnScope zja ["stock", "net"] (defScope zcM):=⟨rfl,rfl,rfl,by decide +kernel,rfl,by decide +kernel,by decide +kernel⟩
theorem zpG {f:Addr} {k:Nat}
 (cdv:Value) (A:Around) (outer:List Env) (s:Shared) (H:Hp) (E:XK) (vs:List V) (hl:vs.length=2) (hr:Room k (A.deeper (envOfC "counts_of" (defScope zcM) s.heap.objs.size f cdv))) :
 SSs (yOf P w K mg base xr zja "counts_of" (defScope zcM) f cdv A outer s H E) (zbz [] vs) (defBody zcM) zkt :=
 zaj (yret (zac (xlc [("kind",2),("ports",3)] [2,3] rfl zfK.nd (zdw (xv 0)) (zbY rfl) (λ_ _ _ _ _=>gtup rfl (za0 (gn 2 zfK.nd) (za0 (gn 3 zfK.nd) (gnil)))) (λ_ _ _ _ _=>zb9) (λ_ _ _ _ _=>xmtC (ztq hr.units) zy0 (zac (xix (xp 1) (zac (xI)) hr.units)) (zaf (xp 2) (zad))))))
abbrev zoL:List Str:=["stock", "rules", "found", "left", "right", "behind", "k", "many"]
theorem ze4:FnScope zoL ["stock", "rules"] (defScope zfu):=⟨rfl,rfl,rfl,by decide +kernel,rfl,by decide +kernel,by decide +kernel⟩
theorem zwU {f:Addr} {k:Nat}
 (m_enumerate:mg "enumerate" = none)
 (F_counts_of:Cal P w K mg base xr k "counts_of" zdE)
 (cdv:Value) (A:Around) (outer:List Env) (s:Shared) (H:Hp) (E:XK) (vs:List V) (hl:vs.length=2) (hr:Room k (A.deeper (envOfC "losses" (defScope zfu) s.heap.objs.size f cdv))) :
 SSs (yOf P w K mg base xr zoL "losses" (defScope zfu) f cdv A outer s H E) (zbz [] vs) (defBody zfu) zqH :=
 yseq (yset 2 (zaW (zad)) ze4.nd)
 (yseq (yfor (passes_of rfl) rfl (zdw (xv 1)) (gtup rfl (za0 (gn 3 ze4.nd) (za0 (gn 4 ze4.nd) (gnil))))
 (yseq (yset 5 (xc F_counts_of hr (zaf (zah (xv 0)) (zaf (zah (xv 4)) (zad)))) ze4.nd)
 (zaj (yex (xm 2 yat yaE yaF mt_append zaO (zaf (zah (xlc [("k",6),("many",7)] [6,7] rfl ze4.nd (xen m_enumerate (xc F_counts_of hr (zaf (zah (xv 0)) (zaf (zah (xv 3)) (zad))))) (zbY rfl) (λ_ _ _ _ _=>gtup rfl (za0 (gn 6 ze4.nd) (za0 (gn 7 ze4.nd) (gnil)))) (λ_ _ _ _ _=>zb9) (λ_ _ _ _ _=>zax op_sub zfV (xp 7) (zac (xix (xp 5) (xp 6) hr.units))))) (zad)))))))
 (zaj (yret (xp 2))))
abbrev zlY:List Str:=["numbers", "found", "number", "rest"]
theorem zgn:FnScope zlY ["numbers"] (defScope zex):=⟨rfl,rfl,rfl,by decide +kernel,rfl,by decide +kernel,by decide +kernel⟩
theorem zu9 {f:Addr} {k:Nat}
 (m_abs:mg "abs" = none)
 (cdv:Value) (A:Around) (outer:List Env) (s:Shared) (H:Hp) (E:XK) (vs:List V) (hl:vs.length=1) (hr:Room k (A.deeper (envOfC "divisor" (defScope zex) s.heap.objs.size f cdv))) :
 SSs (yOf P w K mg base xr zlY "divisor" (defScope zex) f cdv A outer s H E) (zbz [] vs) (defBody zex) zoa :=
 yseq (yset 1 (xI) zgn.nd)
 (yseq (yfor (passes_of rfl) rfl (zdw (xv 0)) (gn 2 zgn.nd)
 (yseq (yset 3 (xblt m_abs call_abs zyM boot_abs (zaf (xp 2) (zad))) zgn.nd)
 (zaj (znx (passes_of rfl) (tcmp .NotEq (zbu hr.units) zec (xp 3) (zac (xI)))
 (zaj (ypar2 1 3 (xv 3) (zax op_mod zic (xp 1) (xp 3)) zgn.nd))))))
 (zaj (yret (xp 1))))
abbrev zlZ:List Str:=["row", "pivot", "column", "found", "by", "one", "other", "number"]
theorem zeQ:FnScope zlZ ["row", "pivot", "column"] (defScope zey):=⟨rfl,rfl,rfl,by decide +kernel,rfl,by decide +kernel,by decide +kernel⟩
theorem zva {f:Addr} {k:Nat}
 (m_zip:mg "zip" = none)
 (m_max:mg "max" = none)
 (F_divisor:Cal P w K mg base xr k "divisor" zeJ)
 (cdv:Value) (A:Around) (outer:List Env) (s:Shared) (H:Hp) (E:XK) (vs:List V) (hl:vs.length=3) (hr:Room k (A.deeper (envOfC "cleared" (defScope zey) s.heap.objs.size f cdv))) :
 SSs (yOf P w K mg base xr zlZ "cleared" (defScope zey) f cdv A outer s H E) (zbz [] vs) (defBody zey) zoc :=
 yseq (zsU 3 [("one",5),("other",6)] [5,6] rfl zeQ.nd (xzp m_zip (xv 0) (xv 1)) (zbY rfl) (λ_ _ _ _ _=>gtup rfl (za0 (gn 5 zeQ.nd) (za0 (gn 6 zeQ.nd) (gnil)))) (λ_ _ _ _ _=>zb9) (λ_ _ _ _ _=>zax op_sub zfV (zac (zax op_mulW zjx (xp 5) (zac (xix (xp 1) (xp 2) hr.units)))) (zac (zax op_mulW zjx (xp 6) (zac (xix (xp 0) (xp 2) hr.units))))))
 (yseq (yset 4 (xblt m_max (call_max2 rfl) (zxi imax) boot_max (zaf (zac (xI)) (zaf (zac (xc F_divisor hr (zaf (zah (xv 3)) (zad)))) (zad)))) zeQ.nd)
 (zaj (yret (zac (xlc [("number",7)] [7] rfl zeQ.nd (zdw (xv 3)) (zbY rfl) (λ_ _ _ _ _=>gn 7 zeQ.nd) (λ_ _ _ _ _=>zb9) (λ_ _ _ _ _=>zax op_fdivW zmK (xp 7) (xp 4)))))))
abbrev tblF:List Str:=["width", "lines", "owners", "gains"]
abbrev zq9:List Str:=["self", "rows", "kinds", "k", "row", "j"]
theorem zgI:FnScope zq9 ["self", "rows", "kinds"] (defScope zfv):=⟨rfl,rfl,rfl,by decide +kernel,rfl,by decide +kernel,by decide +kernel⟩
theorem zwV {f C:Addr} {k:Nat} (m_len:mg "len" = none) (m_range:mg "range" = none) (m_int:mg "int" = none) (c:ClsD K mg "Table" C tblF)
 (cdv:Value) (A:Around) (outer:List Env) (s:Shared) (H:Hp) (E:XK) (vs:List V) (hl:vs.length=3) (hr:Room k (A.deeper (envOfC "Table.__init__" (defScope zfv) s.heap.objs.size f cdv))) :
 SSs (yOf P w K mg base xr zq9 "Table.__init__" (defScope zfv) f cdv A outer s H E) (zbz [0] vs) (defBody zfv) (w_tn C) :=
 yseq (yfld 0 c (xblt m_len zan zaM yaG (zaf (xp 1) (zad))))
 (yseq (yfld 0 c (zaW (zad)))
 (yseq (yfld 0 c (zaW (zad)))
 (yseq (yfor (passes_of rfl) rfl (xr1 m_range (xp 2)) (gn 3 zgI.nd)
 (yseq (yex (xmF 0 c yat yaE yaF mt_append zaO (zaf (zah (zax zaE zaZ (zac (xlc [("row",4)] [4] rfl zgI.nd (zdw (xv 1)) (zbY rfl) (λ_ _ _ _ _=>gn 4 zgI.nd) (λ_ _ _ _ _=>zb9) (λ_ _ _ _ _=>xix (xp 4) (xp 3) hr.units))) (zac (xlc [("j",5)] [5] rfl zgI.nd (xr1 m_range (xp 2)) (zbY rfl) (λ_ _ _ _ _=>gn 5 zgI.nd) (λ_ _ _ _ _=>zb9) (λ_ _ _ _ _=>xty m_int call_int1 zjw boot_int (zaf (zac (xcmp .Eq (zbi hr.units) zdx (xp 5) (xp 3))) (zad))))))) (zad))))
 (zaj (yex (xmF 0 c yat yaE yaF mt_append zaO (zaf (zah (zax zaE zaZ (zac (xblt m_len zan zaM yaG (zaf (xp 1) (zad)))) (xp 3))) (zad)))))))
 (zaj (yfld 0 c (se_fz (zax zaE zaZ (zac (zax zbS zd6 (zac (zqf [.int 1] (zaW (zaf (zac (xI)) (zad))))) (zac (xblt m_len zan zaM yaG (zaf (xp 1) (zad)))))) (zac (zax zbS zd6 (zac (zqf [.int 0] (zaW (zaf (zac (xI)) (zad))))) (xp 2))))))))))
abbrev zk2:List Str:=["self", "column", "gain"]
theorem zhm:FnScope zk2 ["self"] (defScope zcN):=⟨rfl,rfl,rfl,by decide +kernel,rfl,by decide +kernel,by decide +kernel⟩
theorem zpH {f C:Addr} {k:Nat} (m_enumerate:mg "enumerate" = none) (c:ClsD K mg "Table" C tblF)
 (cdv:Value) (A:Around) (outer:List Env) (s:Shared) (H:Hp) (E:XK) (vs:List V) (hl:vs.length=1) (hr:Room k (A.deeper (envOfC "Table.gaining" (defScope zcN) s.heap.objs.size f cdv))) :
 SSs (yOf P w K mg base xr zk2 "Table.gaining" (defScope zcN) f cdv A outer s H E) (zbz [0] vs) (defBody zcN) (w_tg C) :=
 yseq (yfor (passes_of rfl) rfl (xen m_enumerate (zrD (xfld 0 c))) (gtup rfl (za0 (gn 1 zhm.nd) (za0 (gn 2 zhm.nd) (gnil))))
 (zaj (yif (tcmp .Gt (zbT hr.units .gt) (zd7 .gt) (xp 2) (zac (xI)))
 (zaj (yret (xp 1)))
 (zby))))
 (zaj (yret (zac (xN))))
abbrev zl0:List Str:=["self", "column", "some", "k", "line"]
theorem zgJ:FnScope zl0 ["self", "column"] (defScope zdz):=⟨rfl,rfl,rfl,by decide +kernel,rfl,by decide +kernel,by decide +kernel⟩
theorem zsc {f C:Addr} {k:Nat} (m_enumerate:mg "enumerate" = none) (m_min:mg "min" = none) (c:ClsD K mg "Table" C tblF)
 (cdv:Value) (A:Around) (outer:List Env) (s:Shared) (H:Hp) (E:XK) (vs:List V) (hl:vs.length=2) (hr:Room k (A.deeper (envOfC "Table.giving" (defScope zdz) s.heap.objs.size f cdv))) :
 SSs (yOf P w K mg base xr zl0 "Table.giving" (defScope zdz) f cdv A outer s H E) (zbz [0] vs) (defBody zdz) (w_tv C) :=
 yseq (zy6 2 [("k",3),("line",4)] [3,4] rfl zgJ.nd (xfldE 0 c m_enumerate) (zbY rfl) (λ_ _ _ _ _=>gtup rfl (za0 (gn 3 zgJ.nd) (za0 (gn 4 zgJ.nd) (gnil)))) (λ_ _ _ _ _=>zg6 (tcmp .Gt (zbT hr.units .gt) (zd7 .gt) (zac (xix (xp 4) (xp 1) hr.units)) (zac (xI)))) (λ_ _ _ _ _=>zaY (zaf (zah (xix (xfld 0 c) (xp 3) hr.units)) (zaf (zah (xv 3)) (zad)))))
 (yseq (yif (tcmp .Eq (zbi hr.units) zdx (xp 2) (zac (zaW (zad))))
 (zaj (yret (zac (xN))))
 (zby))
 (zaj (yret (zac (xix (zac (xblt m_min (zy3 rfl hr.units) zwc boot_min (zaf (xp 2) (zad)))) (zac (xI)) hr.units)))))
abbrev zra:List Str:=["self", "k", "column", "pivot", "j", "line"]
theorem zjF:FnScope zra ["self", "k", "column"] (defScope zfw):=⟨rfl,rfl,rfl,by decide +kernel,rfl,by decide +kernel,by decide +kernel⟩
theorem zwW {f C:Addr} {k:Nat} (m_enumerate:mg "enumerate" = none) (m_list:mg "list" = none) (F_cleared:Cal P w K mg base xr k "cleared" zfn) (c:ClsD K mg "Table" C tblF)
 (cdv:Value) (A:Around) (outer:List Env) (s:Shared) (H:Hp) (E:XK) (vs:List V) (hl:vs.length=3) (hr:Room k (A.deeper (envOfC "Table.turn" (defScope zfw) s.heap.objs.size f cdv))) :
 SSs (yOf P w K mg base xr zra "Table.turn" (defScope zfw) f cdv A outer s H E) (zbz [0] vs) (defBody zfw) (w_tt C) :=
 yseq (yset 3 (xix (xfld 0 c) (xp 1) hr.units) zjF.nd)
 (yseq (yfor (passes_of rfl) rfl (xen m_enumerate (xty m_list call_list_of zmj boot_list (zaf (xfld 0 c) (zad)))) (gtup rfl (za0 (gn 4 zjF.nd) (za0 (gn 5 zjF.nd) (gnil))))
 (zaj (yif (tcmp .NotEq (zbu hr.units) zec (xp 4) (xp 1))
 (zaj (ystF 0 c (xc F_cleared hr (zaf (zah (xv 5)) (zaf (zah (xv 3)) (zaf (zah (xv 2)) (zad))))) (xp 4) hr.units))
 (zby))))
 (yseq (yfld 0 c (se_fz (xc F_cleared hr (zaf (zah (zrD (xfld 0 c))) (zaf (zah (xv 3)) (zaf (zah (xv 2)) (zad)))))))
 (zaj (ystF 0 c (xv 2) (xp 1) hr.units))))
abbrev zoM:List Str:=["self", "column", "whole", "k", "line", "mine", "found"]
theorem zdv:FnScope zoM ["self", "column"] (defScope zez):=⟨rfl,rfl,rfl,by decide +kernel,rfl,by decide +kernel,by decide +kernel⟩
theorem zvb {f C:Addr} {k:Nat} (m_enumerate:mg "enumerate" = none) (m_len:mg "len" = none) (m_tuple:mg "tuple" = none) (F_divisor:Cal P w K mg base xr k "divisor" zeJ) (c:ClsD K mg "Table" C tblF)
 (cdv:Value) (A:Around) (outer:List Env) (s:Shared) (H:Hp) (E:XK) (vs:List V) (hl:vs.length=2) (hr:Room k (A.deeper (envOfC "Table.times" (defScope zez) s.heap.objs.size f cdv))) :
 SSs (yOf P w K mg base xr zoM "Table.times" (defScope zez) f cdv A outer s H E) (zbz [0] vs) (defBody zez) (w_tm C) :=
 yseq (yset 2 (xI) zdv.nd)
 (yseq (yfor (passes_of rfl) rfl (xen m_enumerate (zrD (xfld 0 c))) (gtup rfl (za0 (gn 3 zdv.nd) (za0 (gn 4 zdv.nd) (gnil))))
 (yseq (yset 5 (xix (xp 4) (zac (xix (xfld 0 c) (xp 3) hr.units)) hr.units) zdv.nd)
 (zaj (yset 2 (zax op_fdivW zmK (zac (zax op_mulW zjx (xp 2) (xp 5))) (zac (xc F_divisor hr (zaf (zah (zaW (zaf (zah (xv 2)) (zaf (zah (xv 5)) (zad))))) (zad))))) zdv.nd))))
 (yseq (yset 6 (zax zbS zd6 (zac (zqf [.int 0] (zaW (zaf (zac (xI)) (zad))))) (zac (xblt m_len zan zaM yaG (zaf (xfld 0 c) (zad))))) zdv.nd)
 (yseq (yst 6 (xv 2) (xp 1) hr.units)
 (yseq (yfor (passes_of rfl) rfl (xen m_enumerate (zrD (xfld 0 c))) (gtup rfl (za0 (gn 3 zdv.nd) (za0 (gn 4 zdv.nd) (gnil))))
 (zaj (yst 6 (zax op_sub zfV (zac (xI)) (zac (zax op_mulW zjx (zac (xix (xp 4) (xp 1) hr.units)) (zac (zax op_fdivW zmK (xp 2) (zac (xix (xp 4) (zac (xix (xfld 0 c) (xp 3) hr.units)) hr.units))))))) (zac (xix (xfld 0 c) (xp 3) hr.units)) hr.units)))
 (zaj (yret (zac (xty m_tuple zbe zcd boot_tuple (zaf (zac (xsl (xp 6) (zl7) (zhu (zrD (xfld 0 c))))) (zad))))))))))
abbrev zl1:List Str:=["stock", "rules", "table", "column", "k", "gain"]
theorem zeR:FnScope zl1 ["stock", "rules"] (defScope zeA):=⟨rfl,rfl,rfl,by decide +kernel,rfl,by decide +kernel,by decide +kernel⟩
theorem zvc {f C:Addr} {k:Nat} (m_len:mg "len" = none) (m_tuple:mg "tuple" = none) (c:ClsD K mg "Table" C tblF)
 (FN:CalI P w K mg base xr k C (f_tn C)) (FG:CalM P w K mg base xr (k+1) C "gaining" (f_tg C)) (FV:CalM P w K mg base xr (k+1) C "giving" (f_tv C)) (FT:CalM P w K mg base xr (k+1) C "turn" (f_tt C)) (FM:CalM P w K mg base xr (k+1) C "times" (f_tm C))
 (F_losses:Cal P w K mg base xr (k+1) "losses" zjy)
 (cdv:Value) (A:Around) (outer:List Env) (s:Shared) (H:Hp) (E:XK) (vs:List V) (hl:vs.length=2) (hr:Room (k+1) (A.deeper (envOfC "weighed" (defScope zeA) s.heap.objs.size f cdv))) :
 SSs (yOf P w K mg base xr zl1 "weighed" (defScope zeA) f cdv A outer s H E) (zbz [] vs) (defBody zeA) (w_wd C) :=
 yseq (yset 2 (xmk c FN hr (zaf (zah (xc F_losses hr (zaf (zah (xv 0)) (zaf (zah (xv 1)) (zad))))) (zaf (zac (xblt m_len zan zaM yaG (zaf (xp 0) (zad)))) (zad)))) zeR.nd)
 (yseq (yset 3 (xmth0 2 c FG hr) zeR.nd)
 (yseq (znx (passes_of rfl) (tcmp .IsNot op_notN zvB (xp 3) (zac (xN)))
 (yseq (yset 4 (xmth 2 c FV hr (zaf (zah (xv 3)) (zad))) zeR.nd)
 (yseq (yif (tcmp .Is op_isN zyk (xp 4) (zac (xN)))
 (zaj (yret (zac (zaY (zaf (zac (xS)) (zaf (zah (zy7 2 ["lines", "owners"] (xmth 2 c FM hr (zaf (zah (xv 3)) (zad))))) (zad)))))))
 (zby))
 (yseq (yex (xmth 2 c FT hr (zaf (zah (xv 4)) (zaf (zah (xv 3)) (zad)))))
 (zaj (yset 3 (xmth0 2 c FG hr) zeR.nd))))))
 (zaj (yret (zac (zaY (zaf (zac (xS)) (zaf (zah (xty m_tuple zbe zcd boot_tuple (zaf (zac (xlc [("gain",5)] [5] rfl zeR.nd (zdw (xsl (xfld 2 c) (zhu (zrD (xfld 2 c))) (zl7))) (zbY rfl) (λ_ _ _ _ _=>gn 5 zeR.nd) (λ_ _ _ _ _=>zb9) (λ_ _ _ _ _=>zax op_sub zfV (zac (xI)) (xp 5)))) (zad)))) (zad)))))))))
abbrev zg1:List Str:=["_law_script", "_law_k", "_law_cell", "_law_total", "_law_number", "_law_turn"]
theorem zbP:FnScope zg1 ["_law_script", "_law_k"] (defScope zbK):=⟨rfl,rfl,rfl,by decide +kernel,rfl,by decide +kernel,by decide +kernel⟩
theorem znc {f:Addr} {k:Nat}
 (m_len:mg "len" = none)
 (m_range:mg "range" = none)
 (cdv:Value) (A:Around) (outer:List Env) (s:Shared) (H:Hp) (E:XK) (vs:List V) (hl:vs.length=2) (hr:Room k (A.deeper (envOfC "_law_digits" (defScope zbK) s.heap.objs.size f cdv))) :
 SSs (yOf P w K mg base xr zg1 "_law_digits" (defScope zbK) f cdv A outer s H E) (zbz [] vs) (defBody zbK) zkF :=
 yseq (yset 2 (zx2 (tcmp .Lt (zbT hr.units .lt) (zd7 .lt) (xp 1) (zac (xblt m_len zan zaM yaG (zaf (xp 0) (zad))))) (xix (xp 0) (xp 1) hr.units) (xI)) zbP.nd)
 (yseq (yif (tcmp .GtE (zbT hr.units .ge) (zd7 .ge) (xp 2) (zac (zax op_pow zsw (zac (xI)) (zac (xI)))))
 (zaj (yret (zac (zaW (zaf (zah (zax op_sub zfV (xp 2) (zac (zax op_pow zsw (zac (xI)) (zac (xI)))))) (zad))))))
 (zby))
 (yseq (yset 3 (xI) zbP.nd)
 (yseq (yset 4 (zax op_mod zic (zac (zax zaE zaZ (zac (zax zaE zaZ (zac (zax zbS zd6 (xp 2) (zac (xI)))) (zac (zax zbS zd6 (zac (xI)) (xp 1))))) (zac (xI)))) (zac (xI))) zbP.nd)
 (yseq (yfor (passes_of rfl) rfl (xr1 m_range (zac (xI))) (gn 5 zbP.nd)
 (yseq (yset 4 (zax op_mod zic (zac (zax zaE zaZ (zac (zax zaE zaZ (zac (zax zbS zd6 (xp 4) (xp 4))) (zac (zax zbS zd6 (zac (xI)) (xp 4))))) (xp 5))) (zac (xI))) zbP.nd)
 (zaj (yset 3 (zax zaE zaZ (zac (zax zbS zd6 (xp 3) (zac (xI)))) (zac (zax op_mod zic (zac (zax zbS zd6 (xp 4) (zac (xI)))) (zac (xI))))) zbP.nd))))
 (zaj (yret (zac (zaW (zaf (zah (xv 3)) (zad))))))))))
abbrev zjb:List Str:=["_law_held", "_law_many_here", "_law_found"]
theorem zk3:FnScope zjb ["_law_held", "_law_many_here"] (defScope zcO):=⟨rfl,rfl,rfl,by decide +kernel,rfl,by decide +kernel,by decide +kernel⟩
theorem zpI {f:Addr} {k:Nat}
 (cdv:Value) (A:Around) (outer:List Env) (s:Shared) (H:Hp) (E:XK) (vs:List V) (hl:vs.length=2) (hr:Room k (A.deeper (envOfC "_law_take" (defScope zcO) s.heap.objs.size f cdv))) :
 SSs (yOf P w K mg base xr zjb "_law_take" (defScope zcO) f cdv A outer s H E) (zbz [0] vs) (defBody zcO) zqD :=
 yseq (yset 2 (zax op_mod zic (zac (xix (xp 0) (zac (xI)) hr.units)) (xp 1)) zk3.nd)
 (yseq (yst 0 (zax op_fdiv zyd (zac (xix (xp 0) (zac (xI)) hr.units)) (xp 1)) (zac (xI)) hr.units)
 (zaj (yret (xp 2))))
abbrev zjc:List Str:=["_law_spec"]
theorem zpJ:FnScope zjc ["_law_spec"] (defScope zcP):=⟨rfl,rfl,rfl,by decide +kernel,rfl,by decide +kernel,by decide +kernel⟩
theorem zpL {f:Addr} {k:Nat}
 (cdv:Value) (A:Around) (outer:List Env) (s:Shared) (H:Hp) (E:XK) (vs:List V) (hl:vs.length=1) (hr:Room k (A.deeper (envOfC "_law_mate" (defScope zcP) s.heap.objs.size f cdv))) :
 SSs (yOf P w K mg base xr zjc "_law_mate" (defScope zcP) f cdv A outer s H E) (zbz [] vs) (defBody zcP) zqE :=
 zaj (yret (zac (zaY (zaf (zah (xix (xp 0) (zac (xI)) hr.units)) (zaf (zah (zx2 (tcmp .Eq (zbi hr.units) zdx (zac (xix (xp 0) (zac (xI)) hr.units)) (zac (xS))) (xS) (xS))) (zad))))))
abbrev zh1:List Str:=["_law_held", "_law_many_here", "_law_left_here", "_law_found"]
theorem zgo:FnScope zh1 ["_law_held", "_law_many_here"] (defScope zb1):=⟨rfl,rfl,rfl,by decide +kernel,rfl,by decide +kernel,by decide +kernel⟩
theorem zoN {f:Addr} {k:Nat}
 (m_list:mg "list" = none)
 (m_range:mg "range" = none)
 (m_len:mg "len" = none)
 (F__law_take:Cal P w K mg base xr k "_law_take" zal)
 (cdv:Value) (A:Around) (outer:List Env) (s:Shared) (H:Hp) (E:XK) (vs:List V) (hl:vs.length=2) (hr:Room k (A.deeper (envOfC "_law_order" (defScope zb1) s.heap.objs.size f cdv))) :
 SSs (yOf P w K mg base xr zh1 "_law_order" (defScope zb1) f cdv A outer s H E) (zbz [0] vs) (defBody zb1) zn4 :=
 yseq (yset 2 (xlr1 rfl m_list m_range (xp 1)) zgo.nd)
 (yseq (yset 3 (zaW (zad)) zgo.nd)
 (yseq (znx (passes_of rfl) (tcmp .NotEq (zbu hr.units) zec (xp 2) (zac (zaW (zad))))
 (zaj (yex (xm 3 yat yaE yaF mt_append zaO (zaf (zah (xm 2 yat ybH ybI mt_popAt zhC (zaf (zah (xc F__law_take hr (zaf (xp 0) (zaf (zah (xblt m_len zan zaM yaG (zaf (xp 2) (zad)))) (zad))))) (zad)))) (zad))))))
 (zaj (yret (xp 3)))))
abbrev zjd:List Str:=["_law_stock_here", "_law_boxes", "_law_pairs", "_law_gone", "_law_one", "_law_other", "_law_ports", "_law_found", "_law_b", "_law_kind", "_law_p", "_law_spec"]
theorem zbh:FnScope zjd ["_law_stock_here", "_law_boxes", "_law_pairs"] (defScope zcQ):=⟨rfl,rfl,rfl,by decide +kernel,rfl,by decide +kernel,by decide +kernel⟩
theorem zpM {f:Addr} {k:Nat}
 (m_dict:mg "dict" = none)
 (m_enumerate:mg "enumerate" = none)
 (cdv:Value) (A:Around) (outer:List Env) (s:Shared) (H:Hp) (E:XK) (vs:List V) (hl:vs.length=3) (hr:Room k (A.deeper (envOfC "_law_free" (defScope zcQ) s.heap.objs.size f cdv))) :
 SSs (yOf P w K mg base xr zjd "_law_free" (defScope zcQ) f cdv A outer s H E) (zbz [1,2] vs) (defBody zcQ) zqF :=
 yseq (yset 3 (zx5) zbh.nd)
 (yseq (yforO 2 (zsm hl rfl) (passes_of rfl) rfl (xown 2) (gtup rfl (za0 (gn 4 zbh.nd) (za0 (gn 5 zbh.nd) (gnil))))
 (yseq (yst 3 (xB) (xp 4) hr.units)
 (zaj (yst 3 (xB) (xp 5) hr.units))) (zjY rfl))
 (yseq (yset 6 (xty m_dict (znw rfl) zvH boot_dict (zaf (xp 0) (zad))) zbh.nd)
 (yseq (yset 7 (zaW (zad)) zbh.nd)
 (yseq (yforO 1 (zsm hl rfl) (passes_of rfl) rfl (xownE 1 m_enumerate) (gtup rfl (za0 (gn 8 zbh.nd) (za0 (gn 9 zbh.nd) (gnil))))
 (zaj (yex (xm 7 yat yb1 yb2 mt_extend zif (zaf (zac (xlc [("_law_p",10),("_law_spec",11)] [10,11] rfl zbh.nd (xen m_enumerate (xix (xp 6) (xp 9) hr.units)) (zbY rfl) (λ_ _ _ _ _=>gtup rfl (za0 (gn 10 zbh.nd) (za0 (gn 11 zbh.nd) (gnil)))) (λ_ _ _ _ _=>zg6 (tcmp .NotIn (zju hr.units true) (zp5 true) (zac (zaY (zaf (zah (xv 8)) (zaf (zah (xv 10)) (zad))))) (xp 3))) (λ_ _ _ _ _=>zaY (zaf (zah (zaY (zaf (zah (xv 8)) (zaf (zah (xv 10)) (zad))))) (zaf (zah (xv 11)) (zad)))))) (zad))))) (zjY rfl))
 (zaj (yret (xp 7)))))))
abbrev zh2:List Str:=["_law_pairs", "_law_pair"]
theorem zgp:FnScope zh2 ["_law_pairs"] (defScope zb2):=⟨rfl,rfl,rfl,by decide +kernel,rfl,by decide +kernel,by decide +kernel⟩
theorem zoO {f:Addr} {k:Nat}
 (m_tuple:mg "tuple" = none)
 (m_sorted:mg "sorted" = none)
 (cdv:Value) (A:Around) (outer:List Env) (s:Shared) (H:Hp) (E:XK) (vs:List V) (hl:vs.length=1) (hr:Room k (A.deeper (envOfC "_law_wires" (defScope zb2) s.heap.objs.size f cdv))) :
 SSs (yOf P w K mg base xr zh2 "_law_wires" (defScope zb2) f cdv A outer s H E) (zbz [] vs) (defBody zb2) zon :=
 zaj (yret (zac (xty m_tuple zbe zcd boot_tuple (zaf (zac (xblt m_sorted (zik hr.units) zg8 boot_sorted (zaf (zac (xlc [("_law_pair",1)] [1] rfl zgp.nd (zdw (xv 0)) (zbY rfl) (λ_ _ _ _ _=>gn 1 zgp.nd) (λ_ _ _ _ _=>zb9) (λ_ _ _ _ _=>xty m_tuple zbe zcd boot_tuple (zaf (zac (xblt m_sorted (zik hr.units) zg8 boot_sorted (zaf (xp 1) (zad)))) (zad))))) (zad)))) (zad)))))
abbrev zh3:List Str:=["_law_held", "_law_many_here", "_law_letters", "_law_base", "_law_at", "_law_first", "_law_some", "_law_k", "_law_letter", "_law_end"]
theorem zaL:FnScope zh3 ["_law_held", "_law_many_here"] (defScope zb3):=⟨rfl,rfl,rfl,by decide +kernel,rfl,by decide +kernel,by decide +kernel⟩
theorem zoP {f:Addr} {k:Nat}
 (m_range:mg "range" = none)
 (m_len:mg "len" = none)
 (m_int:mg "int" = none)
 (F__law_take:Cal P w K mg base xr k "_law_take" zal)
 (cdv:Value) (A:Around) (outer:List Env) (s:Shared) (H:Hp) (E:XK) (vs:List V) (hl:vs.length=2) (hr:Room k (A.deeper (envOfC "_law_words" (defScope zb3) s.heap.objs.size f cdv))) :
 SSs (yOf P w K mg base xr zh3 "_law_words" (defScope zb3) f cdv A outer s H E) (zbz [0] vs) (defBody zb3) zlL :=
 yseq (yset 2 (xS) zaL.nd)
 (yseq (yset 3 (xmt PySem.F.plainAttrs_str PySem.F.slot_str_join PySem.F.type_str_join mt_join zvM (zac (xS)) (zaf (zac (xlc [("_law_k",7)] [7] rfl zaL.nd (xr1 m_range (zac (xI))) (zbY rfl) (λ_ _ _ _ _=>gn 7 zaL.nd) (λ_ _ _ _ _=>zb9) (λ_ _ _ _ _=>xix (xp 2) (zac (xc F__law_take hr (zaf (xp 0) (zaf (zac (xI)) (zad))))) hr.units))) (zad))) zaL.nd)
 (yseq (yif (tcmp .Eq (zbi hr.units) zdx (zac (xc F__law_take hr (zaf (xp 0) (zaf (zac (xI)) (zad))))) (zac (xI)))
 (zaj (yret (zac (xlc [("_law_k",7)] [7] rfl zaL.nd (xr1 m_range (xp 1)) (zbY rfl) (λ_ _ _ _ _=>gn 7 zaL.nd) (λ_ _ _ _ _=>zb9) (λ_ _ _ _ _=>xsl (xp 3) (zl7) (zhu (zax zaE zaZ (xp 7) (zac (xI)))))))))
 (zby))
 (yseq (yset 3 (xsl (xp 3) (zl7) (zhu (zax zaE zaZ (zac (xI)) (zac (xc F__law_take hr (zaf (xp 0) (zaf (zac (xI)) (zad)))))))) zaL.nd)
 (yseq (yset 4 (xc F__law_take hr (zaf (xp 0) (zaf (zah (xblt m_len zan zaM yaG (zaf (xp 3) (zad)))) (zad)))) zaL.nd)
 (yseq (yset 5 (xmt PySem.F.plainAttrs_str PySem.F.slot_str_index PySem.F.type_str_index mt_sindex zyt (xp 2) (zaf (zac (xix (xp 3) (xp 4) hr.units)) (zad))) zaL.nd)
 (yseq (yset 6 (zaW (zad)) zaL.nd)
 (yseq (yfor (passes_of rfl) rfl (xr1 m_range (xp 1)) (gn 7 zaL.nd)
 (yseq (yset 8 (xix (xp 2) (zac (zax op_mod zic (zac (zax zaE zaZ (xp 5) (zac (zax zbS zd6 (zac (xI)) (xp 7))))) (zac (xI)))) hr.units) zaL.nd)
 (yseq (yset 9 (zax zaE zaZ (zac (xsl (xp 3) (zhu (zax zaE zaZ (xp 4) (zac (xI)))) (zl7))) (zac (zax ztE zrN (zac (xS)) (zac (xty m_int call_int1 zjw boot_int (zaf (zac (xcmp .Eq (zbi hr.units) zdx (zac (xc F__law_take hr (zaf (xp 0) (zaf (zac (xI)) (zad))))) (zac (xI)))) (zad))))))) zaL.nd)
 (zaj (yex (xm 6 yat yaE yaF mt_append zaO (zaf (zah (zax zaE zaZ (zac (zax zaE zaZ (zac (xsl (xp 3) (zl7) (zhu (xv 4)))) (xp 8))) (xp 9))) (zad))))))))
 (zaj (yret (xp 6))))))))))
abbrev zh4:List Str:=["_law_held", "_law_sorts", "_law_rows", "_law_sort", "_law_k", "_law_ports", "_law_p"]
theorem zbJ:FnScope zh4 ["_law_held"] (defScope zb4):=⟨rfl,rfl,rfl,by decide +kernel,rfl,by decide +kernel,by decide +kernel⟩
theorem zoQ {f:Addr} {k:Nat}
 (m_range:mg "range" = none)
 (m_len:mg "len" = none)
 (m_int:mg "int" = none)
 (m_tuple:mg "tuple" = none)
 (m_sorted:mg "sorted" = none)
 (m_list:mg "list" = none)
 (m_zip:mg "zip" = none)
 (F__law_take:Cal P w K mg base xr k "_law_take" zal)
 (F__law_words:Cal P w K mg base xr k "_law_words" zes)
 (cdv:Value) (A:Around) (outer:List Env) (s:Shared) (H:Hp) (E:XK) (vs:List V) (hl:vs.length=1) (hr:Room k (A.deeper (envOfC "_law_stock" (defScope zb4) s.heap.objs.size f cdv))) :
 SSs (yOf P w K mg base xr zh4 "_law_stock" (defScope zb4) f cdv A outer s H E) (zbz [0] vs) (defBody zb4) zlM :=
 yseq (yset 1 (xc F__law_words hr (zaf (xp 0) (zaf (zah (zax zaE zaZ (zac (xI)) (zac (xc F__law_take hr (zaf (xp 0) (zaf (zac (xI)) (zad))))))) (zad)))) zbJ.nd)
 (yseq (yset 2 (zaW (zad)) zbJ.nd)
 (yseq (yfor (passes_of rfl) rfl (zdw (xv 1)) (gn 3 zbJ.nd)
 (zaj (yex (xm 2 yat yb1 yb2 mt_extend zif (zaf (zac (zaW (zaf (zah (zaY (zaf (zah (zaY (zaf (zah (xv 3)) (zaf (zac (xS)) (zad))))) (zad)))) (zaf (zah (zaY (zaf (zah (zaY (zaf (zah (xv 3)) (zaf (zac (xS)) (zad))))) (zad)))) (zad))))) (zad))))))
 (yseq (yfor (passes_of rfl) rfl (xr1 m_range (zac (zax zaE zaZ (zac (xI)) (zac (xc F__law_take hr (zaf (xp 0) (zaf (zah (zax op_sub zfV (zac (xI)) (zac (xblt m_len zan zaM yaG (zaf (xp 2) (zad)))))) (zad)))))))) (gn 4 zbJ.nd)
 (yseq (yset 5 (zaW (zad)) zbJ.nd)
 (yseq (yfor (passes_of rfl) rfl (xr1 m_range (zac (zax zaE zaZ (zac (zax zaE zaZ (zac (xI)) (zac (xty m_int call_int1 zjw boot_int (zaf (zac (xcmp .Eq (zbi hr.units) zdx (xp 4) (zac (xI)))) (zad)))))) (zac (xc F__law_take hr (zaf (xp 0) (zaf (zah (zax op_sub zfV (zac (xI)) (zac (xty m_int call_int1 zjw boot_int (zaf (zac (xcmp .Eq (zbi hr.units) zdx (xp 4) (zac (xI)))) (zad)))))) (zad)))))))) (gn 6 zbJ.nd)
 (yseq (yset 3 (xix (xp 1) (zac (xc F__law_take hr (zaf (xp 0) (zaf (zah (xblt m_len zan zaM yaG (zaf (xp 1) (zad)))) (zad))))) hr.units) zbJ.nd)
 (zaj (yex (xm 5 yat yaE yaF mt_append zaO (zaf (zah (zaY (zaf (zah (xv 3)) (zaf (zah (xix (zac (xS)) (zac (xc F__law_take hr (zaf (xp 0) (zaf (zac (xI)) (zad))))) hr.units)) (zad))))) (zad)))))))
 (zaj (yex (xm 2 yat yaE yaF mt_append zaO (zaf (zah (xty m_tuple zbe zcd boot_tuple (zaf (xp 5) (zad)))) (zad))))))))
 (zaj (yret (zac (xty m_tuple zbe zcd boot_tuple (zaf (zac (xblt m_sorted (zik hr.units) zg8 boot_sorted (zaf (zac (xlz rfl m_list m_zip (zac (xc F__law_words hr (zaf (xp 0) (zaf (zah (xblt m_len zan zaM yaG (zaf (xp 2) (zad)))) (zad))))) (xp 2))) (zad)))) (zad)))))))))
abbrev zh5:List Str:=["_law_free_here", "_law_spec", "_law_k"]
theorem zgq:FnScope zh5 ["_law_free_here", "_law_spec"] (defScope zb5):=⟨rfl,rfl,rfl,by decide +kernel,rfl,by decide +kernel,by decide +kernel⟩
theorem zoR {f:Addr} {k:Nat}
 (m_range:mg "range" = none)
 (m_len:mg "len" = none)
 (F__law_mate:Cal P w K mg base xr k "_law_mate" zcK)
 (cdv:Value) (A:Around) (outer:List Env) (s:Shared) (H:Hp) (E:XK) (vs:List V) (hl:vs.length=2) (hr:Room k (A.deeper (envOfC "_law_mates" (defScope zb5) s.heap.objs.size f cdv))) :
 SSs (yOf P w K mg base xr zh5 "_law_mates" (defScope zb5) f cdv A outer s H E) (zbz [0] vs) (defBody zb5) zop :=
 zaj (yret (zac (xlc [("_law_k",2)] [2] rfl zgq.nd (xr1 m_range (zac (xblt m_len zan zaM yaG (zaf (xp 0) (zad))))) (zbY rfl) (λ_ _ _ _ _=>gn 2 zgq.nd) (λ_ _ _ _ _=>zg6 (tcmp .Eq (zbi hr.units) zdx (zac (xix (zac (xix (xp 0) (xp 2) hr.units)) (zac (xI)) hr.units)) (zac (xc F__law_mate hr (zaf (zah (xv 1)) (zad)))))) (λ_ _ _ _ _=>xv 2))))
abbrev zg2:List Str:=["_law_held", "_law_stock_here", "_law_outers", "_law_boxes", "_law_pairs", "_law_free_here", "_law_end", "_law_spec", "_law_mates_here", "_law_k", "_law_kind", "_law_ports"]
theorem zaK:FnScope zg2 ["_law_held", "_law_stock_here", "_law_outers", "_law_boxes"] (defScope zbL):=⟨rfl,rfl,rfl,by decide +kernel,rfl,by decide +kernel,by decide +kernel⟩
theorem znd {f:Addr} {k:Nat}
 (m_list:mg "list" = none)
 (m_enumerate:mg "enumerate" = none)
 (m_len:mg "len" = none)
 (m_tuple:mg "tuple" = none)
 (F__law_free:Cal P w K mg base xr k "_law_free" zeg)
 (F__law_take:Cal P w K mg base xr k "_law_take" zal)
 (F__law_mates:Cal P w K mg base xr k "_law_mates" zeL)
 (F__law_mate:Cal P w K mg base xr k "_law_mate" zcK)
 (F__law_wires:Cal P w K mg base xr k "_law_wires" zeK)
 (cdv:Value) (A:Around) (outer:List Env) (s:Shared) (H:Hp) (E:XK) (vs:List V) (hl:vs.length=4) (hr:Room k (A.deeper (envOfC "_law_closed" (defScope zbL) s.heap.objs.size f cdv))) :
 SSs (yOf P w K mg base xr zg2 "_law_closed" (defScope zbL) f cdv A outer s H E) (zbz [0] vs) (defBody zbL) zlN :=
 yseq (yset 3 (xty m_list call_list_of zmj boot_list (zaf (xp 3) (zad))) zaK.nd)
 (yseq (yset 4 (zaW (zad)) zaK.nd)
 (yseq (yset 5 (zax zaE zaZ (zac (xlc [("_law_k",9),("_law_spec",7)] [9,7] rfl zaK.nd (xen m_enumerate (xv 2)) (zbY rfl) (λ_ _ _ _ _=>gtup rfl (za0 (gn 9 zaK.nd) (za0 (gn 7 zaK.nd) (gnil)))) (λ_ _ _ _ _=>zb9) (λ_ _ _ _ _=>zaY (zaf (zah (zaY (zaf (zah (zsf un_neg zjW (zac (xI)))) (zaf (zah (xv 9)) (zad))))) (zaf (zah (xv 7)) (zad)))))) (zac (xc F__law_free hr (zaf (zah (xv 1)) (zaf (xp 3) (zaf (zac (zaW (zad))) (zad))))))) zaK.nd)
 (yseq (znx (passes_of rfl) (tcmp .NotEq (zbu hr.units) zec (xp 5) (zac (zaW (zad))))
 (yseq (yasg (xm 5 yat ybH ybI mt_popAt zhC (zaf (zah (xc F__law_take hr (zaf (xp 0) (zaf (zah (xblt m_len zan zaM yaG (zaf (xp 5) (zad)))) (zad))))) (zad))) (gtup rfl (za0 (gn 6 zaK.nd) (za0 (gn 7 zaK.nd) (gnil)))))
 (yseq (yset 8 (xc F__law_mates hr (zaf (xp 5) (zaf (zah (xv 7)) (zad)))) zaK.nd)
 (zaj (yif ((zg5 (tcmp .NotEq (zbu hr.units) zec (xp 8) (zac (zaW (zad)))) (zgu (tcmp .Gt (zbT hr.units .gt) (zd7 .gt) (zac (xc F__law_take hr (zaf (xp 0) (zaf (zac (xI)) (zad))))) (zac (xI))))).st)
 (zaj (yex (xm 4 yat yaE yaF mt_append zaO (zaf (zah (zaY (zaf (zah (xv 6)) (zaf (zah (xix (zac (xm 5 yat ybH ybI mt_popAt zhC (zaf (zah (xix (xp 8) (zac (xc F__law_take hr (zaf (xp 0) (zaf (zah (xblt m_len zan zaM yaG (zaf (xp 8) (zad)))) (zad))))) hr.units)) (zad)))) (zac (xI)) hr.units)) (zad))))) (zad)))))
 (yseq (yex (xm 4 yat yaE yaF mt_append zaO (zaf (zah (zaY (zaf (zah (xv 6)) (zaf (zah (zaY (zaf (zah (xblt m_len zan zaM yaG (zaf (xp 3) (zad)))) (zaf (zac (xI)) (zad))))) (zad))))) (zad))))
 (zaj (yex (xm 3 yat yaE yaF mt_append zaO (zaf (zah (xix (zac (xlc [("_law_kind",10),("_law_ports",11)] [10,11] rfl zaK.nd (zdw (xv 1)) (zbY rfl) (λ_ _ _ _ _=>gtup rfl (za0 (gn 10 zaK.nd) (za0 (gn 11 zaK.nd) (gnil)))) (λ_ _ _ _ _=>zg6 (tcmp .Eq (zbi hr.units) zdx (xp 11) (zac (zaY (zaf (zah (xc F__law_mate hr (zaf (zah (xv 7)) (zad)))) (zad)))))) (λ_ _ _ _ _=>xv 10))) (zac (xI)) hr.units)) (zad)))))))))))
 (zaj (yret (zac (zaY (zaf (zah (xty m_tuple zbe zcd boot_tuple (zaf (xp 2) (zad)))) (zaf (zah (xty m_tuple zbe zcd boot_tuple (zaf (xp 3) (zad)))) (zaf (zah (xc F__law_wires hr (zaf (zah (xv 4)) (zad)))) (zaf (zah (zaY (zad))) (zad))))))))))))
abbrev zje:List Str:=["_law_held", "_law_stock_here", "_law_boxes", "_law_loops", "_law_pairs", "_law_turn", "_law_some", "_law_end", "_law_spec", "_law_kind", "_law_ports", "_law_p", "_law_free_here", "_law_outers", "_law_mates_here", "_law_one"]
theorem zaD:FnScope zje ["_law_held", "_law_stock_here", "_law_boxes", "_law_loops"] (defScope zcR):=⟨rfl,rfl,rfl,by decide +kernel,rfl,by decide +kernel,by decide +kernel⟩
theorem zpN {f:Addr} {k:Nat}
 (m_range:mg "range" = none)
 (m_enumerate:mg "enumerate" = none)
 (m_len:mg "len" = none)
 (m_tuple:mg "tuple" = none)
 (F__law_take:Cal P w K mg base xr k "_law_take" zal)
 (F__law_free:Cal P w K mg base xr k "_law_free" zeg)
 (F__law_mate:Cal P w K mg base xr k "_law_mate" zcK)
 (F__law_mates:Cal P w K mg base xr k "_law_mates" zeL)
 (F__law_wires:Cal P w K mg base xr k "_law_wires" zeK)
 (cdv:Value) (A:Around) (outer:List Env) (s:Shared) (H:Hp) (E:XK) (vs:List V) (hl:vs.length=4) (hr:Room k (A.deeper (envOfC "_law_left" (defScope zcR) s.heap.objs.size f cdv))) :
 SSs (yOf P w K mg base xr zje "_law_left" (defScope zcR) f cdv A outer s H E) (zbz [0] vs) (defBody zcR) zor :=
 yseq (yset 4 (zaW (zad)) zaD.nd)
 (yseq (yfor (passes_of rfl) rfl (xr1 m_range (zac (xc F__law_take hr (zaf (xp 0) (zaf (zac (xI)) (zad)))))) (gn 5 zaD.nd)
 (yseq (yset 6 (zaW (zad)) zaD.nd)
 (yseq (yfor (passes_of rfl) rfl (zdw (xc F__law_free hr (zaf (zah (xv 1)) (zaf (xp 2) (zaf (xp 4) (zad)))))) (gtup rfl (za0 (gn 7 zaD.nd) (za0 (gn 8 zaD.nd) (gnil))))
 (zaj (yfor (passes_of rfl) rfl (zdw (xv 1)) (gtup rfl (za0 (gn 9 zaD.nd) (za0 (gn 10 zaD.nd) (gnil))))
 (zaj (yex (xm 6 yat yb1 yb2 mt_extend zif (zaf (zac (xlc [("_law_p",11),("_law_one",15)] [11,15] rfl zaD.nd (xen m_enumerate (xv 10)) (zbY rfl) (λ_ _ _ _ _=>gtup rfl (za0 (gn 11 zaD.nd) (za0 (gn 15 zaD.nd) (gnil)))) (λ_ _ _ _ _=>zg6 (tcmp .Eq (zbi hr.units) zdx (xp 15) (zac (xc F__law_mate hr (zaf (zah (xv 8)) (zad)))))) (λ_ _ _ _ _=>zaY (zaf (zah (xv 7)) (zaf (zah (xv 9)) (zaf (zah (xv 11)) (zad))))))) (zad))))))))
 (zaj (yif (tcmp .NotEq (zbu hr.units) zec (xp 6) (zac (zaW (zad))))
 (yseq (yasg (xix (xp 6) (zac (xc F__law_take hr (zaf (xp 0) (zaf (zah (xblt m_len zan zaM yaG (zaf (xp 6) (zad)))) (zad))))) hr.units) (gtup rfl (za0 (gn 7 zaD.nd) (za0 (gn 9 zaD.nd) (za0 (gn 11 zaD.nd) (gnil))))))
 (yseq (yex (xm 4 yat yaE yaF mt_append zaO (zaf (zah (zaY (zaf (zah (xv 7)) (zaf (zah (zaY (zaf (zah (xblt m_len zan zaM yaG (zaf (xp 2) (zad)))) (zaf (zah (xv 11)) (zad))))) (zad))))) (zad))))
 (zaj (yset 2 (zax zaE zaZ (xp 2) (zac (zaW (zaf (zah (xv 9)) (zad))))) zaD.nd))))
 (zby))))))
 (yseq (yset 12 (xc F__law_free hr (zaf (zah (xv 1)) (zaf (xp 2) (zaf (xp 4) (zad))))) zaD.nd)
 (yseq (yset 13 (zaW (zad)) zaD.nd)
 (yseq (znx (passes_of rfl) (tcmp .NotEq (zbu hr.units) zec (xp 12) (zac (zaW (zad))))
 (yseq (yasg (xm 12 yat ybH ybI mt_popAt zhC (zaf (zah (xc F__law_take hr (zaf (xp 0) (zaf (zah (xblt m_len zan zaM yaG (zaf (xp 12) (zad)))) (zad))))) (zad))) (gtup rfl (za0 (gn 7 zaD.nd) (za0 (gn 8 zaD.nd) (gnil)))))
 (yseq (yset 14 (xc F__law_mates hr (zaf (xp 12) (zaf (zah (xv 8)) (zad)))) zaD.nd)
 (zaj (yif ((zg5 (tcmp .NotEq (zbu hr.units) zec (xp 14) (zac (zaW (zad)))) (zgu (tcmp .Lt (zbT hr.units .lt) (zd7 .lt) (zac (xc F__law_take hr (zaf (xp 0) (zaf (zac (xI)) (zad))))) (xp 3)))).st)
 (zaj (yex (xm 4 yat yaE yaF mt_append zaO (zaf (zah (zaY (zaf (zah (xv 7)) (zaf (zah (xix (zac (xm 12 yat ybH ybI mt_popAt zhC (zaf (zah (xix (xp 14) (zac (xc F__law_take hr (zaf (xp 0) (zaf (zah (xblt m_len zan zaM yaG (zaf (xp 14) (zad)))) (zad))))) hr.units)) (zad)))) (zac (xI)) hr.units)) (zad))))) (zad)))))
 (yseq (yex (xm 4 yat yaE yaF mt_append zaO (zaf (zah (zaY (zaf (zah (zaY (zaf (zah (zsf un_neg zjW (zac (xI)))) (zaf (zah (xblt m_len zan zaM yaG (zaf (xp 13) (zad)))) (zad))))) (zaf (zah (xv 7)) (zad))))) (zad))))
 (zaj (yex (xm 13 yat yaE yaF mt_append zaO (zaf (zah (xc F__law_mate hr (zaf (zah (xv 8)) (zad)))) (zad)))))))))))
 (zaj (yret (zac (zaY (zaf (zah (xty m_tuple zbe zcd boot_tuple (zaf (xp 13) (zad)))) (zaf (zah (xty m_tuple zbe zcd boot_tuple (zaf (xp 2) (zad)))) (zaf (zah (xc F__law_wires hr (zaf (zah (xv 4)) (zad)))) (zaf (zah (zaY (zad))) (zad)))))))))))))
abbrev zg3:List Str:=["_law_held", "_law_net", "_law_many_here"]
theorem zh6:FnScope zg3 ["_law_held", "_law_net"] (defScope zbM):=⟨rfl,rfl,rfl,by decide +kernel,rfl,by decide +kernel,by decide +kernel⟩
theorem zne {f:Addr} {k:Nat}
 (m_tuple:mg "tuple" = none)
 (F__law_take:Cal P w K mg base xr k "_law_take" zal)
 (cdv:Value) (A:Around) (outer:List Env) (s:Shared) (H:Hp) (E:XK) (vs:List V) (hl:vs.length=2) (hr:Room k (A.deeper (envOfC "_law_ringed" (defScope zbM) s.heap.objs.size f cdv))) :
 SSs (yOf P w K mg base xr zg3 "_law_ringed" (defScope zbM) f cdv A outer s H E) (zbz [0] vs) (defBody zbM) zlO :=
 yseq (yset 2 (xix (zac (zaW (zaf (zac (xI)) (zaf (zac (xI)) (zaf (zac (xI)) (zaf (zah (zax zaE zaZ (zac (xI)) (zac (xc F__law_take hr (zaf (xp 0) (zaf (zac (xI)) (zad))))))) (zad))))))) (zac (xc F__law_take hr (zaf (xp 0) (zaf (zac (xI)) (zad))))) hr.units) zh6.nd)
 (zaj (yret (zac (zax zaE zaZ (zac (xsl (xp 1) (zl7) (zhu (xI)))) (zac (zaY (zaf (zah (xty m_tuple zbe zcd boot_tuple (zaf (zac (xsl (zac (zaW (zaf (zah (zaY (zaf (zac (xS)) (zaf (zah (xv 2)) (zad))))) (zad)))) (zl7) (zhu (xv 2)))) (zad)))) (zad))))))))
abbrev zjf:List Str:=["_law_held", "_law_stock_here", "_law_left_here", "_law_boxes", "_law_k"]
theorem zfL:FnScope zjf ["_law_held", "_law_stock_here"] (defScope zcS):=⟨rfl,rfl,rfl,by decide +kernel,rfl,by decide +kernel,by decide +kernel⟩
theorem zpO {f:Addr} {k:Nat}
 (m_len:mg "len" = none)
 (m_range:mg "range" = none)
 (F__law_take:Cal P w K mg base xr k "_law_take" zal)
 (F__law_left:Cal P w K mg base xr k "_law_left" zhX)
 (F__law_closed:Cal P w K mg base xr k "_law_closed" zgD)
 (F__law_ringed:Cal P w K mg base xr k "_law_ringed" zgE)
 (cdv:Value) (A:Around) (outer:List Env) (s:Shared) (H:Hp) (E:XK) (vs:List V) (hl:vs.length=2) (hr:Room k (A.deeper (envOfC "_law_wild" (defScope zcS) s.heap.objs.size f cdv))) :
 SSs (yOf P w K mg base xr zjf "_law_wild" (defScope zcS) f cdv A outer s H E) (zbz [0] vs) (defBody zcS) zqN :=
 yseq (yset 2 (xc F__law_left hr (zaf (xp 0) (zaf (zah (xv 1)) (zaf (zah (zaW (zaf (zah (xix (zac (xix (xp 1) (zac (xc F__law_take hr (zaf (xp 0) (zaf (zah (xblt m_len zan zaM yaG (zaf (xp 1) (zad)))) (zad))))) hr.units)) (zac (xI)) hr.units)) (zad)))) (zaf (zac (xI)) (zad)))))) zfL.nd)
 (yseq (zsU 3 [("_law_k",4)] [4] rfl zfL.nd (xr1 m_range (zac (xc F__law_take hr (zaf (xp 0) (zaf (zac (xI)) (zad)))))) (zbY rfl) (λ_ _ _ _ _=>gn 4 zfL.nd) (λ_ _ _ _ _=>zb9) (λ_ _ _ _ _=>xix (zac (xix (xp 1) (zac (xc F__law_take hr (zaf (xp 0) (zaf (zah (xblt m_len zan zaM yaG (zaf (xp 1) (zad)))) (zad))))) hr.units)) (zac (xI)) hr.units))
 (zaj (yret (zac (zaY (zaf (zah (xv 2)) (zaf (zah (xc F__law_ringed hr (zaf (xp 0) (zaf (zah (xc F__law_closed hr (zaf (xp 0) (zaf (zah (xv 1)) (zaf (zah (xix (xp 2) (zac (xI)) hr.units)) (zaf (zah (xv 3)) (zad))))))) (zad))))) (zad))))))))
abbrev zjg:List Str:=["_law_stock_here", "_law_net", "_law_kind", "_law_ports", "_law_one"]
theorem zdK:FnScope zjg ["_law_stock_here", "_law_net"] (defScope zcT):=⟨rfl,rfl,rfl,by decide +kernel,rfl,by decide +kernel,by decide +kernel⟩
theorem zpP {f:Addr} {k:Nat}
 (m_len:mg "len" = none)
 (cdv:Value) (A:Around) (outer:List Env) (s:Shared) (H:Hp) (E:XK) (vs:List V) (hl:vs.length=2) (hr:Room k (A.deeper (envOfC "_law_many" (defScope zcT) s.heap.objs.size f cdv))) :
 SSs (yOf P w K mg base xr zjg "_law_many" (defScope zcT) f cdv A outer s H E) (zbz [] vs) (defBody zcT) zlQ :=
 zaj (yret (zac (xlc [("_law_kind",2),("_law_ports",3)] [2,3] rfl zdK.nd (zdw (xv 0)) (zbY rfl) (λ_ _ _ _ _=>gtup rfl (za0 (gn 2 zdK.nd) (za0 (gn 3 zdK.nd) (gnil)))) (λ_ _ _ _ _=>zb9) (λ_ _ _ _ _=>xblt m_len zan zaM yaG (zaf (zac (xlc [("_law_one",4)] [4] rfl zdK.nd (zdw (xix (xp 1) (zac (xI)) hr.units)) (zbY rfl) (λ_ _ _ _ _=>gn 4 zdK.nd) (λ_ _ _ _ _=>zg6 (tcmp .Eq (zbi hr.units) zdx (xp 4) (xp 2))) (λ_ _ _ _ _=>xv 4))) (zad))))))
abbrev zjh:List Str:=["_law_stock_here", "_law_rule", "_law_behind", "_law_k", "_law_many_here"]
theorem zeS:FnScope zjh ["_law_stock_here", "_law_rule"] (defScope zcU):=⟨rfl,rfl,rfl,by decide +kernel,rfl,by decide +kernel,by decide +kernel⟩
theorem zpQ {f:Addr} {k:Nat}
 (m_enumerate:mg "enumerate" = none)
 (F__law_many:Cal P w K mg base xr k "_law_many" zev)
 (cdv:Value) (A:Around) (outer:List Env) (s:Shared) (H:Hp) (E:XK) (vs:List V) (hl:vs.length=2) (hr:Room k (A.deeper (envOfC "_law_lost" (defScope zcU) s.heap.objs.size f cdv))) :
 SSs (yOf P w K mg base xr zjh "_law_lost" (defScope zcU) f cdv A outer s H E) (zbz [] vs) (defBody zcU) zqO :=
 yseq (yset 2 (xc F__law_many hr (zaf (zah (xv 0)) (zaf (zah (xix (xp 1) (zac (xI)) hr.units)) (zad)))) zeS.nd)
 (zaj (yret (zac (xlc [("_law_k",3),("_law_many_here",4)] [3,4] rfl zeS.nd (xen m_enumerate (xc F__law_many hr (zaf (zah (xv 0)) (zaf (zah (xix (xp 1) (zac (xI)) hr.units)) (zad))))) (zbY rfl) (λ_ _ _ _ _=>gtup rfl (za0 (gn 3 zeS.nd) (za0 (gn 4 zeS.nd) (gnil)))) (λ_ _ _ _ _=>zb9) (λ_ _ _ _ _=>zax op_sub zfV (xp 4) (zac (xix (xp 2) (xp 3) hr.units)))))))
abbrev zgr:List Str:=["_law_thing", "_law_many_here", "_law_one"]
theorem zff:FnScope zgr ["_law_thing", "_law_many_here"] (defScope zbp):=⟨rfl,rfl,rfl,by decide +kernel,rfl,by decide +kernel,by decide +kernel⟩
theorem zle {f:Addr} {k:Nat}
 (m_len:mg "len" = none)
 (m_isinstance:mg "isinstance" = none)
 (m_tuple:mg "tuple" = none)
 (m_bool:mg "bool" = none)
 (m_int:mg "int" = none)
 (cdv:Value) (A:Around) (outer:List Env) (s:Shared) (H:Hp) (E:XK) (vs:List V) (hl:vs.length=2) (hr:Room k (A.deeper (envOfC "_law_numbers" (defScope zbp) s.heap.objs.size f cdv))) :
 SSs (yOf P w K mg base xr zgr "_law_numbers" (defScope zbp) f cdv A outer s H E) (zbz [] vs) (defBody zbp) zi5 :=
 yseq (yif ((zht (zjS (ttru (zac (xblt m_isinstance call_isi zmi boot_isinstance (zaf (xp 0) (zaf (zac (xTy m_tuple boot_tuple)) (zad))))))) (zia (tcmp .NotEq (zbu hr.units) zec (zac (xblt m_len zan zaM yaG (zaf (xp 0) (zad)))) (xp 1)))).st)
 (zaj (yret (zac (xB))))
 (zby))
 (zaj (yret (zac (xcmp .Eq (zbi hr.units) zdx (zac (xlc [("_law_one",2)] [2] rfl zff.nd (zdw (xv 0)) (zbY rfl) (λ_ _ _ _ _=>gn 2 zff.nd) (λ_ _ _ _ _=>zg6 ((zht (zjS (ttru (zac (xblt m_isinstance call_isi zmi boot_isinstance (zaf (xp 2) (zaf (zac (xTy m_int boot_int)) (zad))))))) (zht (ttru (zac (xblt m_isinstance call_isi zmi boot_isinstance (zaf (xp 2) (zaf (zac (xTy m_bool boot_bool)) (zad)))))) (zia (tcmp .Lt (zbT hr.units .lt) (zd7 .lt) (xp 2) (zac (xI)))))).st)) (λ_ _ _ _ _=>xv 2))) (zac (zaW (zad)))))))
abbrev zh7:List Str:=["_law_stock_here", "_law_rules_here", "_law_told", "_law_rows", "_law_row", "_law_k", "_law_rule", "_law_many_here", "_law_weight", "_law_times"]
theorem za3:FnScope zh7 ["_law_stock_here", "_law_rules_here", "_law_told"] (defScope zb6):=⟨rfl,rfl,rfl,by decide +kernel,rfl,by decide +kernel,by decide +kernel⟩
theorem zoS {f:Addr} {k:Nat}
 (m_len:mg "len" = none)
 (m_isinstance:mg "isinstance" = none)
 (m_tuple:mg "tuple" = none)
 (m_sum:mg "sum" = none)
 (m_zip:mg "zip" = none)
 (m_range:mg "range" = none)
 (F__law_lost:Cal P w K mg base xr k "_law_lost" zjA)
 (F__law_numbers:Cal P w K mg base xr k "_law_numbers" zc3)
 (cdv:Value) (A:Around) (outer:List Env) (s:Shared) (H:Hp) (E:XK) (vs:List V) (hl:vs.length=3) (hr:Room k (A.deeper (envOfC "_law_right" (defScope zb6) s.heap.objs.size f cdv))) :
 SSs (yOf P w K mg base xr zh7 "_law_right" (defScope zb6) f cdv A outer s H E) (zbz [] vs) (defBody zb6) zi6 :=
 yseq (yif ((zht (zjS (ttru (zac (xblt m_isinstance call_isi zmi boot_isinstance (zaf (xp 2) (zaf (zac (xTy m_tuple boot_tuple)) (zad))))))) (zia (tcmp .NotEq (zbu hr.units) zec (zac (xblt m_len zan zaM yaG (zaf (xp 2) (zad)))) (zac (xI))))).st)
 (zaj (yret (zac (xB))))
 (zby))
 (yseq (zsU 3 [("_law_rule",6)] [6] rfl za3.nd (zdw (xv 1)) (zbY rfl) (λ_ _ _ _ _=>gn 6 za3.nd) (λ_ _ _ _ _=>zb9) (λ_ _ _ _ _=>xc F__law_lost hr (zaf (zah (xv 0)) (zaf (zah (xv 6)) (zad)))))
 (yseq (yif ((zg5 (tcmp .Eq (zbi hr.units) zdx (zac (xix (xp 2) (zac (xI)) hr.units)) (zac (xS))) (zgu (ttru (zac (xc F__law_numbers hr (zaf (zah (xix (xp 2) (zac (xI)) hr.units)) (zaf (zah (xblt m_len zan zaM yaG (zaf (xp 0) (zad)))) (zad)))))))).st)
 (yseq (yfor (passes_of rfl) rfl (zdw (xv 3)) (gn 4 za3.nd)
 (zaj (yif (tcmp .Lt (zbT hr.units .lt) (zd7 .lt) (zac (xblt m_sum (cr_sum rfl) ztd boot_sum (zaf (zac (xlc [("_law_weight",8),("_law_many_here",7)] [8,7] rfl za3.nd (xzp m_zip (xix (xp 2) (zac (xI)) hr.units) (xv 4)) (zbY rfl) (λ_ _ _ _ _=>gtup rfl (za0 (gn 8 za3.nd) (za0 (gn 7 za3.nd) (gnil)))) (λ_ _ _ _ _=>zb9) (λ_ _ _ _ _=>zax zbS zd6 (xp 8) (xp 7)))) (zad)))) (zac (xI)))
 (zaj (yret (zac (xB))))
 (zby))))
 (zaj (yret (zac (xB)))))
 (zby))
 (yseq (yif ((zht (tcmp .NotEq (zbu hr.units) zec (zac (xix (xp 2) (zac (xI)) hr.units)) (zac (xS))) (zht (zjS (ttru (zac (xc F__law_numbers hr (zaf (zah (xix (xp 2) (zac (xI)) hr.units)) (zaf (zah (xblt m_len zan zaM yaG (zaf (xp 1) (zad)))) (zad))))))) (zia (tcmp .Lt (zbT hr.units .lt) (zd7 .lt) (zac (xblt m_sum (zza rfl) zwf boot_sum (zaf (zac (xix (xp 2) (zac (xI)) hr.units)) (zad)))) (zac (xI)))))).st)
 (zaj (yret (zac (xB))))
 (zby))
 (yseq (yfrz 3 (yfor (passes_of rfl) rfl (xr1 m_range (zac (xblt m_len zan zaM yaG (zaf (xp 0) (zad))))) (gn 5 za3.nd)
 (zaj (yif (tcmp .Gt (zbT hr.units .gt) (zd7 .gt) (zac (xblt m_sum (cr_sum rfl) ztd boot_sum (zaf (zac (xlc [("_law_times",9),("_law_row",4)] [9,4] rfl za3.nd (xzp m_zip (xix (xp 2) (zac (xI)) hr.units) (xv 3)) (zbY rfl) (λ_ _ _ _ _=>gtup rfl (za0 (gn 9 za3.nd) (za0 (gn 4 za3.nd) (gnil)))) (λ_ _ _ _ _=>zb9) (λ_ _ _ _ _=>zax zbS zd6 (xp 9) (zac (xix (xp 4) (xp 5) hr.units))))) (zad)))) (zac (xI)))
 (zaj (yret (zac (xB))))
 (zby)))))
 (zaj (yret (zac (xB))))))))
abbrev zgs:List Str:=["_law_net", "_law_met", "_law_turn", "_law_one", "_law_other"]
theorem zcI:FnScope zgs ["_law_net"] (defScope zbq):=⟨rfl,rfl,rfl,by decide +kernel,rfl,by decide +kernel,by decide +kernel⟩
theorem zlf {f:Addr} {k:Nat}
 (m_len:mg "len" = none)
 (cdv:Value) (A:Around) (outer:List Env) (s:Shared) (H:Hp) (E:XK) (vs:List V) (hl:vs.length=1) (hr:Room k (A.deeper (envOfC "_law_pattern" (defScope zbq) s.heap.objs.size f cdv))) :
 SSs (yOf P w K mg base xr zgs "_law_pattern" (defScope zbq) f cdv A outer s H E) (zbz [] vs) (defBody zbq) zi7 :=
 yseq (yif ((zht (zjS (tchn .LtE .LtE (zbT hr.units .le) (zbT hr.units .le) (zd7 .le) (zd7 .le) (zac (xI)) (zac (xblt m_len zan zaM yaG (zaf (zac (xix (xp 0) (zac (xI)) hr.units)) (zad)))) (zac (xI)))) (zia (tcmp .NotEq (zbu hr.units) zec (zac (xix (xp 0) (zac (xI)) hr.units)) (zac (zaY (zad)))))).st)
 (zaj (yret (zac (xB))))
 (zby))
 (yseq (yset 1 (zqf [.int 0] (zaW (zaf (zac (xI)) (zad)))) zcI.nd)
 (yseq (yfor (passes_of rfl) rfl (zdw (xix (xp 0) (zac (xI)) hr.units)) (gn 2 zcI.nd)
 (zaj (yfor (passes_of rfl) rfl (zdw (xix (xp 0) (zac (xI)) hr.units)) (gtup rfl (za0 (gn 3 zcI.nd) (za0 (gn 4 zcI.nd) (gnil))))
 (yseq (yif ((zg5 (tcmp .Eq (zbi hr.units) zdx (zac (xix (xp 3) (zac (xI)) hr.units)) (zac (zsf un_neg zjW (zac (xI))))) (zgu (tcmp .Eq (zbi hr.units) zdx (zac (xix (xp 4) (zac (xI)) hr.units)) (zac (zsf un_neg zjW (zac (xI))))))).st)
 (zaj (yret (zac (xB))))
 (zby))
 (zaj (yif ((zg5 (tcmp .NotEq (zbu hr.units) zec (zac (xix (xp 3) (zac (xI)) hr.units)) (zac (zsf un_neg zjW (zac (xI))))) (zgu (tcmp .NotEq (zbu hr.units) zec (zac (xcmp .In (zju hr.units false) (zp5 false) (zac (xix (xp 3) (zac (xI)) hr.units)) (xp 1))) (zac (xcmp .In (zju hr.units false) (zp5 false) (zac (xix (xp 4) (zac (xI)) hr.units)) (xp 1)))))).st)
 (zaj (yex (xm 1 yat yaE yaF mt_append zaO (zaf (zah (zx2 (tcmp .In (zju hr.units false) (zp5 false) (zac (xix (xp 4) (zac (xI)) hr.units)) (xp 1)) (xix (xp 3) (zac (xI)) hr.units) (xix (xp 4) (zac (xI)) hr.units))) (zad)))))
 (zby)))))))
 (zaj (yret (zac (xcmp .Eq (zbi hr.units) zdx (zac (xblt m_len zan zaM yaG (zaf (xp 1) (zad)))) (zac (xblt m_len zan zaM yaG (zaf (zac (xix (xp 0) (zac (xI)) hr.units)) (zad))))))))))
abbrev zh8:List Str:=["_law_held", "_law_stock_here", "_law_most", "_law_about", "_law_rules_here", "_law_k", "_law_left_here", "_law_right_here"]
theorem zd2:FnScope zh8 ["_law_held", "_law_stock_here", "_law_most", "_law_about"] (defScope zb7):=⟨rfl,rfl,rfl,by decide +kernel,rfl,by decide +kernel,by decide +kernel⟩
theorem zoT {f:Addr} {k:Nat}
 (m_range:mg "range" = none)
 (F__law_take:Cal P w K mg base xr k "_law_take" zal)
 (F__law_wild:Cal P w K mg base xr k "_law_wild" zjz)
 (F__law_pattern:Cal P w K mg base xr k "_law_pattern" ze2)
 (cdv:Value) (A:Around) (outer:List Env) (s:Shared) (H:Hp) (E:XK) (vs:List V) (hl:vs.length=4) (hr:Room k (A.deeper (envOfC "_law_rules" (defScope zb7) s.heap.objs.size f cdv))) :
 SSs (yOf P w K mg base xr zh8 "_law_rules" (defScope zb7) f cdv A outer s H E) (zbz [0] vs) (defBody zb7) zlS :=
 yseq (yset 4 (zaW (zad)) zd2.nd)
 (yseq (yfor (passes_of rfl) rfl (xr1 m_range (zac (xc F__law_take hr (zaf (xp 0) (zaf (zah (xv 2)) (zad)))))) (gn 5 zd2.nd)
 (yseq (yasg (xc F__law_wild hr (zaf (xp 0) (zaf (zah (xv 1)) (zad)))) (gtup rfl (za0 (gn 6 zd2.nd) (za0 (gn 7 zd2.nd) (gnil)))))
 (yseq (yex (xm 4 yat yaE yaF mt_append zaO (zaf (zah (zaY (zaf (zah (xv 6)) (zaf (zah (xv 7)) (zad))))) (zad))))
 (zaj (yif ((zg5 (ttru (xp 3)) (zg5 (ttru (zac (xc F__law_pattern hr (zaf (zah (xv 7)) (zad))))) (zgu (tcmp .Eq (zbi hr.units) zdx (zac (xc F__law_take hr (zaf (xp 0) (zaf (zac (xI)) (zad))))) (zac (xI)))))).st)
 (zaj (yex (xm 4 yat yaE yaF mt_append zaO (zaf (zah (zaY (zaf (zah (xv 7)) (zaf (zah (xv 6)) (zad))))) (zad)))))
 (zby))))))
 (zaj (yret (xp 4))))
abbrev zxX:List Str:=["_law_script", "_law_k", "_law_held", "_law_stock_here", "_law_rules_here", "_law_kept", "_law_told"]
theorem zoU:FnScope zxX ["_law_script"] (defScope zoV):=⟨rfl,rfl,rfl,by decide +kernel,rfl,by decide +kernel,by decide +kernel⟩
theorem s_law {f:Addr} {k:Nat}
 (m_range:mg "range" = none)
 (m_max:mg "max" = none)
 (m_len:mg "len" = none)
 (m_list:mg "list" = none)
 (F__law_digits:Cal P w K mg base xr k "_law_digits" zcj)
 (F__law_stock:Cal P w K mg base xr k "_law_stock" zgC)
 (F__law_rules:Cal P w K mg base xr k "_law_rules" zew)
 (F__law_take:Cal P w K mg base xr k "_law_take" zal)
 (F_weighed:Cal P w K mg base xr k "weighed" zdV)
 (F__law_right:Cal P w K mg base xr k "_law_right" zc5)
 (cdv:Value) (A:Around) (outer:List Env) (s:Shared) (H:Hp) (E:XK) (vs:List V) (hl:vs.length=1) (hr:Room k (A.deeper (envOfC "law" (defScope zoV) s.heap.objs.size f cdv))) :
 SSs (yOf P w K mg base xr zxX "law" (defScope zoV) f cdv A outer s H E) (zbz [] vs) (defBody zoV) zbU :=
 yseq (yfor (passes_of rfl) rfl (xr3 m_range (zac (xI)) (zac (xblt m_max (call_max2 rfl) (zxi imax) boot_max (zaf (zac (xI)) (zaf (zac (xblt m_len zan zaM yaG (zaf (xp 0) (zad)))) (zad))))) (zac (xI))) (gn 1 zoU.nd)
 (yseq (yset 2 (xc F__law_digits hr (zaf (zah (xv 0)) (zaf (zah (xv 1)) (zad)))) zoU.nd)
 (yseq (yset 3 (xc F__law_stock hr (zaf (xp 2) (zad))) zoU.nd)
 (yseq (yset 4 (xc F__law_rules hr (zaf (xp 2) (zaf (zah (xv 3)) (zaf (zac (xI)) (zaf (zac (xB)) (zad)))))) zoU.nd)
 (yseq (yif (tcmp .Eq (zbi hr.units) zdx (zac (xc F__law_take hr (zaf (zac (xc F__law_digits hr (zaf (zah (xv 0)) (zaf (zah (zax zaE zaZ (xp 1) (zac (xI)))) (zad))))) (zaf (zac (xI)) (zad))))) (zac (xI)))
 (zaj (yset 4 (zax zaE zaZ (zac (xsl (xp 4) (zl7) (zhu (xI)))) (zac (xc F__law_rules hr (zaf (zac (xc F__law_digits hr (zaf (zah (xv 0)) (zaf (zah (zax zaE zaZ (xp 1) (zac (xI)))) (zad))))) (zaf (zah (xv 3)) (zaf (zac (xI)) (zaf (zac (xB)) (zad)))))))) zoU.nd))
 (zby))
 (yseq (yset 5 (xty m_list call_list_of zmj boot_list (zaf (xp 4) (zad))) zoU.nd)
 (yseq (yset 6 (xc F_weighed hr (zaf (zah (xv 3)) (zaf (zah (xv 4)) (zad)))) zoU.nd)
 (yseq (yif ((zht (zjS (ttru (zac (xc F__law_right hr (zaf (zah (xv 3)) (zaf (zah (xv 5)) (zaf (zah (xv 6)) (zad)))))))) (zht (tcmp .NotEq (zbu hr.units) zec (xp 4) (xp 5)) (zia (tcmp .NotEq (zbu hr.units) zec (zac (xc F_weighed hr (zaf (zah (xv 3)) (zaf (zah (xv 4)) (zad))))) (xp 6))))).st)
 (zaj (yret (zac (xB))))
 (zby))
 (zaj (yif (zjS (ttru (zac (xc F__law_right hr (zaf (zah (xv 3)) (zaf (zah (zaW (zad))) (zaf (zah (xc F_weighed hr (zaf (zah (xv 3)) (zaf (zah (zaW (zad))) (zad))))) (zad))))))))
 (zaj (yret (zac (xB))))
 (zby)))))))))))
 (zaj (yret (zac (xB))))
end
theorem ob_eq (s:PySem.W.SharedT):ob s=hk.obs s.abs:=He.obsDG_eq (HandSHeadRun.getT_eq s)
theorem facts {w:World} {K:PySem.W.Frag} {h:Heap} {mg:Str->Option Value} {f:Addr} (X:K.In h) (G:h.Ns mainGlobals mg) (hfa:mg ("law" : Str)=some (.ref f)) (c:He.SaysD fas fns K) :
 ∃ fd:FuncData,(∀ (s:Shared) (v:Value),BindsTo s fd ⟨[v],[]⟩ [("_law_script",v)])/\∀ base:Heap,K.In base->base.Ns mainGlobals mg->FnOk (PySem.Challenge.rw_weave_k35_weights).prog w K mg base (L2.CX (PySem.Challenge.rw_weave_k35_weights).prog w) 6 f fd ["_law_script"] (spOf K (λ_ _ _ _=>False) zea):=by
 obtain ⟨fd_counts_of,D_counts_of⟩:=c.def_ 0 (d:=zjG) rfl
 obtain ⟨fd_losses,D_losses⟩:=c.def_ 1 (d:=zpR) rfl
 obtain ⟨fd_divisor,D_divisor⟩:=c.def_ 2 (d:=znf) rfl
 obtain ⟨fd_cleared,D_cleared⟩:=c.def_ 3 (d:=zng) rfl
 obtain ⟨fd_weighed,D_weighed⟩:=c.def_ 4 (d:=d_weighed) rfl
 obtain ⟨fd__law_digits,D__law_digits⟩:=c.def_ 5 (d:=zhn) rfl
 obtain ⟨fd__law_take,D__law_take⟩:=c.def_ 6 (d:=zjH) rfl
 obtain ⟨fd__law_mate,D__law_mate⟩:=c.def_ 7 (d:=zjI) rfl
 obtain ⟨fd__law_order,D__law_order⟩:=c.def_ 8 (d:=ziK) rfl
 obtain ⟨fd__law_free,D__law_free⟩:=c.def_ 9 (d:=zjJ) rfl
 obtain ⟨fd__law_wires,D__law_wires⟩:=c.def_ 10 (d:=ziL) rfl
 obtain ⟨fd__law_words,D__law_words⟩:=c.def_ 11 (d:=ziM) rfl
 obtain ⟨fd__law_stock,D__law_stock⟩:=c.def_ 12 (d:=ziN) rfl
 obtain ⟨fd__law_mates,D__law_mates⟩:=c.def_ 13 (d:=ziO) rfl
 obtain ⟨fd__law_closed,D__law_closed⟩:=c.def_ 14 (d:=zho) rfl
 obtain ⟨fd__law_left,D__law_left⟩:=c.def_ 15 (d:=zjK) rfl
 obtain ⟨fd__law_ringed,D__law_ringed⟩:=c.def_ 16 (d:=zhp) rfl
 obtain ⟨fd__law_wild,D__law_wild⟩:=c.def_ 17 (d:=zjL) rfl
 obtain ⟨fd__law_many,D__law_many⟩:=c.def_ 18 (d:=zjM) rfl
 obtain ⟨fd__law_lost,D__law_lost⟩:=c.def_ 19 (d:=zjN) rfl
 obtain ⟨fd__law_numbers,D__law_numbers⟩:=c.def_ 20 (d:=zgN) rfl
 obtain ⟨fd__law_right,D__law_right⟩:=c.def_ 21 (d:=ziP) rfl
 obtain ⟨fd__law_pattern,D__law_pattern⟩:=c.def_ 22 (d:=zgO) rfl
 obtain ⟨fd__law_rules,D__law_rules⟩:=c.def_ 23 (d:=ziQ) rfl
 obtain ⟨fd_law,D_law⟩:=c.def_ 24 (d:=d_law) rfl
 have m_enumerate:mg "enumerate" = none:=ybz X G (c.fact 25 (f:=.free "enumerate") rfl)
 have m_abs:mg "abs" = none:=ybz X G (c.fact 26 (f:=.free "abs") rfl)
 have m_zip:mg "zip" = none:=ybz X G (c.fact 27 (f:=.free "zip") rfl)
 have m_max:mg "max" = none:=ybz X G (c.fact 28 (f:=.free "max") rfl)
 have m_len:mg "len" = none:=ybz X G (c.fact 29 (f:=.free "len") rfl)
 have m_range:mg "range" = none:=ybz X G (c.fact 30 (f:=.free "range") rfl)
 have m_int:mg "int" = none:=ybz X G (c.fact 31 (f:=.free "int") rfl)
 have m_min:mg "min" = none:=ybz X G (c.fact 32 (f:=.free "min") rfl)
 have m_list:mg "list" = none:=ybz X G (c.fact 33 (f:=.free "list") rfl)
 have m_tuple:mg "tuple" = none:=ybz X G (c.fact 34 (f:=.free "tuple") rfl)
 have m_dict:mg "dict" = none:=ybz X G (c.fact 35 (f:=.free "dict") rfl)
 have m_sorted:mg "sorted" = none:=ybz X G (c.fact 36 (f:=.free "sorted") rfl)
 have m_isinstance:mg "isinstance" = none:=ybz X G (c.fact 37 (f:=.free "isinstance") rfl)
 have m_bool:mg "bool" = none:=ybz X G (c.fact 38 (f:=.free "bool") rfl)
 have m_sum:mg "sum" = none:=ybz X G (c.fact 39 (f:=.free "sum") rfl)
 have g_counts_of:=ybc X G (c.fact 0 (f:=.glo "counts_of") rfl)
 have g_losses:=ybc X G (c.fact 1 (f:=.glo "losses") rfl)
 have g_divisor:=ybc X G (c.fact 2 (f:=.glo "divisor") rfl)
 have g_cleared:=ybc X G (c.fact 3 (f:=.glo "cleared") rfl)
 have g_weighed:=ybc X G (c.fact 4 (f:=.glo "weighed") rfl)
 have g__law_digits:=ybc X G (c.fact 5 (f:=.glo "_law_digits") rfl)
 have g__law_take:=ybc X G (c.fact 6 (f:=.glo "_law_take") rfl)
 have g__law_mate:=ybc X G (c.fact 7 (f:=.glo "_law_mate") rfl)
 have g__law_order:=ybc X G (c.fact 8 (f:=.glo "_law_order") rfl)
 have g__law_free:=ybc X G (c.fact 9 (f:=.glo "_law_free") rfl)
 have g__law_wires:=ybc X G (c.fact 10 (f:=.glo "_law_wires") rfl)
 have g__law_words:=ybc X G (c.fact 11 (f:=.glo "_law_words") rfl)
 have g__law_stock:=ybc X G (c.fact 12 (f:=.glo "_law_stock") rfl)
 have g__law_mates:=ybc X G (c.fact 13 (f:=.glo "_law_mates") rfl)
 have g__law_closed:=ybc X G (c.fact 14 (f:=.glo "_law_closed") rfl)
 have g__law_left:=ybc X G (c.fact 15 (f:=.glo "_law_left") rfl)
 have g__law_ringed:=ybc X G (c.fact 16 (f:=.glo "_law_ringed") rfl)
 have g__law_wild:=ybc X G (c.fact 17 (f:=.glo "_law_wild") rfl)
 have g__law_many:=ybc X G (c.fact 18 (f:=.glo "_law_many") rfl)
 have g__law_lost:=ybc X G (c.fact 19 (f:=.glo "_law_lost") rfl)
 have g__law_numbers:=ybc X G (c.fact 20 (f:=.glo "_law_numbers") rfl)
 have g__law_right:=ybc X G (c.fact 21 (f:=.glo "_law_right") rfl)
 have g__law_pattern:=ybc X G (c.fact 22 (f:=.glo "_law_pattern") rfl)
 have g__law_rules:=ybc X G (c.fact 23 (f:=.glo "_law_rules") rfl)
 have zzH:=ybc X G (c.fact 24 (f:=.glo "law") rfl)
 have e:=hfa.symm.trans zzH
 cases e
 refine ⟨fd_law,FunD.bindsA (ps:=["_law_script"]) D_law (λ_ _ _ _ _ _ us hl=>match us,hl with | [_],_=>rfl) |> λb s v=>b s [v] rfl,λbase KX NX => ?_⟩
 have C_counts_of:Cal (PySem.Challenge.rw_weave_k35_weights).prog w K mg base (λ_ _ _ _=>False) 1 "counts_of" zdE:=zbX (kp:=[]) (zd8 D_counts_of) g_counts_of (FunD.bindsN (ps:=["stock", "net"]) D_counts_of λ_ _ _ _ _ _ us hl=>match us,hl with | [_,_],_=>rfl) zfK (λcdv A outer s H E vs hl hr=>zpG (k:=0)  cdv A outer s H E vs hl hr) zk8 λms Q X _ h=>zpm ms Q X h
 have C_losses:Cal (PySem.Challenge.rw_weave_k35_weights).prog w K mg base (λ_ _ _ _=>False) 2 "losses" zjy:=zbX (kp:=[]) (zd8 D_losses) g_losses (FunD.bindsN (ps:=["stock", "rules"]) D_losses λ_ _ _ _ _ _ us hl=>match us,hl with | [_,_],_=>rfl) ze4 (λcdv A outer s H E vs hl hr=>zwU (k:=1) m_enumerate (C_counts_of.up (by decide)) cdv A outer s H E vs hl hr) zpn λms Q X _ h=>zwA ms Q X h
 have C_divisor:Cal (PySem.Challenge.rw_weave_k35_weights).prog w K mg base (λ_ _ _ _=>False) 1 "divisor" zeJ:=zbX (kp:=[]) (zd8 D_divisor) g_divisor (FunD.bindsN (ps:=["numbers"]) D_divisor λ_ _ _ _ _ _ us hl=>match us,hl with | [_],_=>rfl) zgn (λcdv A outer s H E vs hl hr=>zu9 (k:=0) m_abs cdv A outer s H E vs hl hr) zob λms Q X _ h=>zub ms Q X h
 have C_cleared:Cal (PySem.Challenge.rw_weave_k35_weights).prog w K mg base (λ_ _ _ _=>False) 2 "cleared" zfn:=zbX (kp:=[]) (zd8 D_cleared) g_cleared (FunD.bindsN (ps:=["row", "pivot", "column"]) D_cleared λ_ _ _ _ _ _ us hl=>match us,hl with | [_,_,_],_=>rfl) zeQ (λcdv A outer s H E vs hl hr=>zva (k:=1) m_zip m_max (C_divisor.up (by decide)) cdv A outer s H E vs hl hr) zod λms Q X _ h=>zuc ms Q X h
 obtain ⟨fd_N_init,D_N_init⟩:=c.def_ 25 (d:=zpS) rfl
 obtain ⟨fd_N_gaining,D_N_gaining⟩:=c.def_ 26 (d:=zjO) rfl
 obtain ⟨fd_N_giving,D_N_giving⟩:=c.def_ 27 (d:=zlg) rfl
 obtain ⟨fd_N_turn,D_N_turn⟩:=c.def_ 28 (d:=zpT) rfl
 obtain ⟨fd_N_times,D_N_times⟩:=c.def_ 29 (d:=znh) rfl
 have cTable:ClsD K mg "Table" (He.ga K "Table") tblF:=⟨He.cls_ok (c.fact 41 (f:=.cls "Table") rfl),ybc X G (c.fact 40 (f:=.glo "Table") rfl),λf hf=>by
  simp only [tblF,yap,ybb,ycX] at hf
  rcases hf with rfl | rfl | rfl | rfl
  ·exact ycV (c.fact 42 (f:=.noat "Table" "width") rfl)
  ·exact ycV (c.fact 43 (f:=.noat "Table" "lines") rfl)
  ·exact ycV (c.fact 44 (f:=.noat "Table" "owners") rfl)
  ·exact ycV (c.fact 45 (f:=.noat "Table" "gains") rfl)⟩
 have m_N_init:=He.mkr_ok (c.fact 50 (f:=.mkr "Table") rfl)
 have b_N_init:=FunD.bindsN (ps:=["self", "rows", "kinds"]) D_N_init λ_ _ _ _ _ _ us hl=>match us,hl with | [_,_,_],_=>rfl
 have m_N_gaining:=ycW (c.fact 46 (f:=.meth "Table" "gaining") rfl)
 have b_N_gaining:=FunD.bindsN (ps:=["self"]) D_N_gaining λ_ _ _ _ _ _ us hl=>match us,hl with | [_],_=>rfl
 have m_N_giving:=ycW (c.fact 47 (f:=.meth "Table" "giving") rfl)
 have b_N_giving:=FunD.bindsN (ps:=["self", "column"]) D_N_giving λ_ _ _ _ _ _ us hl=>match us,hl with | [_,_],_=>rfl
 have m_N_turn:=ycW (c.fact 48 (f:=.meth "Table" "turn") rfl)
 have b_N_turn:=FunD.bindsN (ps:=["self", "k", "column"]) D_N_turn λ_ _ _ _ _ _ us hl=>match us,hl with | [_,_,_],_=>rfl
 have m_N_times:=ycW (c.fact 49 (f:=.meth "Table" "times") rfl)
 have b_N_times:=FunD.bindsN (ps:=["self", "column"]) D_N_times λ_ _ _ _ _ _ us hl=>match us,hl with | [_,_],_=>rfl
 have C_N_init:CalI (PySem.Challenge.rw_weave_k35_weights).prog w K mg base (λ_ _ _ _=>False) 1 (He.ga K "Table") (f_tn (He.ga K "Table")):=zyT (kp:=[0]) (zn8 D_N_init) m_N_init b_N_init zgI (λcdv A outer s H E vs hl hr=>zwV (k:=0) m_len m_range m_int cTable cdv A outer s H E vs hl hr) (zzC _) λms Q X _ h=>j_tn _ ms Q X h
 have C_N_gaining:CalM (PySem.Challenge.rw_weave_k35_weights).prog w K mg base (λ_ _ _ _=>False) 1 (He.ga K "Table") "gaining" (f_tg (He.ga K "Table")):=zmF (kp:=[0]) (zn8 D_N_gaining) m_N_gaining b_N_gaining zhm (λcdv A outer s H E vs hl hr=>zpH (k:=0) m_enumerate cTable cdv A outer s H E vs hl hr) (zzu _) λms Q X _ h=>j_tg _ ms Q X h
 have C_N_giving:CalM (PySem.Challenge.rw_weave_k35_weights).prog w K mg base (λ_ _ _ _=>False) 1 (He.ga K "Table") "giving" (f_tv (He.ga K "Table")):=zmF (kp:=[0]) (zn8 D_N_giving) m_N_giving b_N_giving zgJ (λcdv A outer s H E vs hl hr=>zsc (k:=0) m_enumerate m_min cTable cdv A outer s H E vs hl hr) (zzw _) λms Q X _ h=>j_tv2 _ ms Q X h
 have C_N_turn:CalM (PySem.Challenge.rw_weave_k35_weights).prog w K mg base (λ_ _ _ _=>False) 3 (He.ga K "Table") "turn" (f_tt (He.ga K "Table")):=zmF (kp:=[0]) (zn8 D_N_turn) m_N_turn b_N_turn zjF (λcdv A outer s H E vs hl hr=>zwW (k:=2) m_enumerate m_list C_cleared cTable cdv A outer s H E vs hl hr) (zzy _) λms Q X _ h=>j_tt _ ms Q X h
 have C_N_times:CalM (PySem.Challenge.rw_weave_k35_weights).prog w K mg base (λ_ _ _ _=>False) 2 (He.ga K "Table") "times" (f_tm (He.ga K "Table")):=zmF (kp:=[0]) (zn8 D_N_times) m_N_times b_N_times zdv (λcdv A outer s H E vs hl hr=>zvb (k:=1) m_enumerate m_len m_tuple C_divisor cTable cdv A outer s H E vs hl hr) (zzA _) λms Q X _ h=>j_tm _ ms Q X h
 have C_weighed:Cal (PySem.Challenge.rw_weave_k35_weights).prog w K mg base (λ_ _ _ _=>False) 4 "weighed" zdV:=zbX (kp:=[]) (zd8 D_weighed) g_weighed (FunD.bindsN (ps:=["stock", "rules"]) D_weighed λ_ _ _ _ _ _ us hl=>match us,hl with | [_,_],_=>rfl) zeR (λcdv A outer s H E vs hl hr=>zvc (k:=2) m_len m_tuple cTable (C_N_init.up (by decide)) (C_N_gaining.up (by decide)) (C_N_giving.up (by decide)) (C_N_turn.up (by decide)) (C_N_times.up (by decide)) (C_losses.up (by decide)) cdv A outer s H E vs hl hr) zol λms Q X _ h=>zus _ ms Q X h
 have C__law_digits:Cal (PySem.Challenge.rw_weave_k35_weights).prog w K mg base (λ_ _ _ _=>False) 1 "_law_digits" zcj:=zbX (kp:=[]) (zd8 D__law_digits) g__law_digits (FunD.bindsN (ps:=["_law_script", "_law_k"]) D__law_digits λ_ _ _ _ _ _ us hl=>match us,hl with | [_,_],_=>rfl) zbP (λcdv A outer s H E vs hl hr=>znc (k:=0) m_len m_range cdv A outer s H E vs hl hr) zla λms Q X _ h=>zpo ms Q X h
 have C__law_take:Cal (PySem.Challenge.rw_weave_k35_weights).prog w K mg base (λ_ _ _ _=>False) 1 "_law_take" zal:=zbX (kp:=[0]) (zd8 D__law_take) g__law_take (FunD.bindsN (ps:=["_law_held", "_law_many_here"]) D__law_take λ_ _ _ _ _ _ us hl=>match us,hl with | [_,_],_=>rfl) zk3 (λcdv A outer s H E vs hl hr=>zpI (k:=0)  cdv A outer s H E vs hl hr) zph λms Q X _ h=>zwt ms Q X h
 have C__law_mate:Cal (PySem.Challenge.rw_weave_k35_weights).prog w K mg base (λ_ _ _ _=>False) 1 "_law_mate" zcK:=zbX (kp:=[]) (zd8 D__law_mate) g__law_mate (FunD.bindsN (ps:=["_law_spec"]) D__law_mate λ_ _ _ _ _ _ us hl=>match us,hl with | [_],_=>rfl) zpJ (λcdv A outer s H E vs hl hr=>zpL (k:=0)  cdv A outer s H E vs hl hr) zpj λms Q X _ h=>zww ms Q X h
 have C__law_order:Cal (PySem.Challenge.rw_weave_k35_weights).prog w K mg base (λ_ _ _ _=>False) 2 "_law_order" zt1:=zbX (kp:=[0]) (zd8 D__law_order) g__law_order (FunD.bindsN (ps:=["_law_held", "_law_many_here"]) D__law_order λ_ _ _ _ _ _ us hl=>match us,hl with | [_,_],_=>rfl) zgo (λcdv A outer s H E vs hl hr=>zoN (k:=1) m_list m_range m_len (C__law_take.up (by decide)) cdv A outer s H E vs hl hr) zn7 λms Q X _ h=>zt2 ms Q X h
 have C__law_free:Cal (PySem.Challenge.rw_weave_k35_weights).prog w K mg base (λ_ _ _ _=>False) 1 "_law_free" zeg:=zbX (kp:=[1,2]) (zd8 D__law_free) g__law_free (FunD.bindsN (ps:=["_law_stock_here", "_law_boxes", "_law_pairs"]) D__law_free λ_ _ _ _ _ _ us hl=>match us,hl with | [_,_,_],_=>rfl) zbh (λcdv A outer s H E vs hl hr=>zpM (k:=0) m_dict m_enumerate cdv A outer s H E vs hl hr) zpk λms Q X _ h=>zwx ms Q X h
 have C__law_wires:Cal (PySem.Challenge.rw_weave_k35_weights).prog w K mg base (λ_ _ _ _=>False) 1 "_law_wires" zeK:=zbX (kp:=[]) (zd8 D__law_wires) g__law_wires (FunD.bindsN (ps:=["_law_pairs"]) D__law_wires λ_ _ _ _ _ _ us hl=>match us,hl with | [_],_=>rfl) zgp (λcdv A outer s H E vs hl hr=>zoO (k:=0) m_tuple m_sorted cdv A outer s H E vs hl hr) zoo λms Q X _ h=>zut ms Q X h
 have C__law_words:Cal (PySem.Challenge.rw_weave_k35_weights).prog w K mg base (λ_ _ _ _=>False) 2 "_law_words" zes:=zbX (kp:=[0]) (zd8 D__law_words) g__law_words (FunD.bindsN (ps:=["_law_held", "_law_many_here"]) D__law_words λ_ _ _ _ _ _ us hl=>match us,hl with | [_,_],_=>rfl) zaL (λcdv A outer s H E vs hl hr=>zoP (k:=1) m_range m_len m_int (C__law_take.up (by decide)) cdv A outer s H E vs hl hr) zmW λms Q X _ h=>zr1 ms Q X h
 have C__law_stock:Cal (PySem.Challenge.rw_weave_k35_weights).prog w K mg base (λ_ _ _ _=>False) 3 "_law_stock" zgC:=zbX (kp:=[0]) (zd8 D__law_stock) g__law_stock (FunD.bindsN (ps:=["_law_held"]) D__law_stock λ_ _ _ _ _ _ us hl=>match us,hl with | [_],_=>rfl) zbJ (λcdv A outer s H E vs hl hr=>zoQ (k:=2) m_range m_len m_int m_tuple m_sorted m_list m_zip (C__law_take.up (by decide)) (C__law_words.up (by decide)) cdv A outer s H E vs hl hr) zmX λms Q X _ h=>zr2 ms Q X h
 have C__law_mates:Cal (PySem.Challenge.rw_weave_k35_weights).prog w K mg base (λ_ _ _ _=>False) 2 "_law_mates" zeL:=zbX (kp:=[0]) (zd8 D__law_mates) g__law_mates (FunD.bindsN (ps:=["_law_free_here", "_law_spec"]) D__law_mates λ_ _ _ _ _ _ us hl=>match us,hl with | [_,_],_=>rfl) zgq (λcdv A outer s H E vs hl hr=>zoR (k:=1) m_range m_len (C__law_mate.up (by decide)) cdv A outer s H E vs hl hr) zoq λms Q X _ h=>zuu ms Q X h
 have C__law_closed:Cal (PySem.Challenge.rw_weave_k35_weights).prog w K mg base (λ_ _ _ _=>False) 3 "_law_closed" zgD:=zbX (kp:=[0]) (zd8 D__law_closed) g__law_closed (FunD.bindsN (ps:=["_law_held", "_law_stock_here", "_law_outers", "_law_boxes"]) D__law_closed λ_ _ _ _ _ _ us hl=>match us,hl with | [_,_,_,_],_=>rfl) zaK (λcdv A outer s H E vs hl hr=>znd (k:=2) m_list m_enumerate m_len m_tuple (C__law_free.up (by decide)) (C__law_take.up (by decide)) (C__law_mates.up (by decide)) (C__law_mate.up (by decide)) (C__law_wires.up (by decide)) cdv A outer s H E vs hl hr) zmY λms Q X _ h=>zr4 ms Q X h
 have C__law_left:Cal (PySem.Challenge.rw_weave_k35_weights).prog w K mg base (λ_ _ _ _=>False) 3 "_law_left" zhX:=zbX (kp:=[0]) (zd8 D__law_left) g__law_left (FunD.bindsN (ps:=["_law_held", "_law_stock_here", "_law_boxes", "_law_loops"]) D__law_left λ_ _ _ _ _ _ us hl=>match us,hl with | [_,_,_,_],_=>rfl) zaD (λcdv A outer s H E vs hl hr=>zpN (k:=2) m_range m_enumerate m_len m_tuple (C__law_take.up (by decide)) (C__law_free.up (by decide)) (C__law_mate.up (by decide)) (C__law_mates.up (by decide)) (C__law_wires.up (by decide)) cdv A outer s H E vs hl hr) zos λms Q X _ h=>zuv ms Q X h
 have C__law_ringed:Cal (PySem.Challenge.rw_weave_k35_weights).prog w K mg base (λ_ _ _ _=>False) 2 "_law_ringed" zgE:=zbX (kp:=[0]) (zd8 D__law_ringed) g__law_ringed (FunD.bindsN (ps:=["_law_held", "_law_net"]) D__law_ringed λ_ _ _ _ _ _ us hl=>match us,hl with | [_,_],_=>rfl) zh6 (λcdv A outer s H E vs hl hr=>zne (k:=1) m_tuple (C__law_take.up (by decide)) cdv A outer s H E vs hl hr) zmZ λms Q X _ h=>zr5 ms Q X h
 have C__law_wild:Cal (PySem.Challenge.rw_weave_k35_weights).prog w K mg base (λ_ _ _ _=>False) 4 "_law_wild" zjz:=zbX (kp:=[0]) (zd8 D__law_wild) g__law_wild (FunD.bindsN (ps:=["_law_held", "_law_stock_here"]) D__law_wild λ_ _ _ _ _ _ us hl=>match us,hl with | [_,_],_=>rfl) zfL (λcdv A outer s H E vs hl hr=>zpO (k:=3) m_len m_range (C__law_take.up (by decide)) (C__law_left.up (by decide)) (C__law_closed.up (by decide)) (C__law_ringed.up (by decide)) cdv A outer s H E vs hl hr) zps λms Q X _ h=>zwB ms Q X h
 have C__law_many:Cal (PySem.Challenge.rw_weave_k35_weights).prog w K mg base (λ_ _ _ _=>False) 1 "_law_many" zev:=zbX (kp:=[]) (zd8 D__law_many) g__law_many (FunD.bindsN (ps:=["_law_stock_here", "_law_net"]) D__law_many λ_ _ _ _ _ _ us hl=>match us,hl with | [_,_],_=>rfl) zdK (λcdv A outer s H E vs hl hr=>zpP (k:=0) m_len cdv A outer s H E vs hl hr) zm0 λms Q X _ h=>zr6 ms Q X h
 have C__law_lost:Cal (PySem.Challenge.rw_weave_k35_weights).prog w K mg base (λ_ _ _ _=>False) 2 "_law_lost" zjA:=zbX (kp:=[]) (zd8 D__law_lost) g__law_lost (FunD.bindsN (ps:=["_law_stock_here", "_law_rule"]) D__law_lost λ_ _ _ _ _ _ us hl=>match us,hl with | [_,_],_=>rfl) zeS (λcdv A outer s H E vs hl hr=>zpQ (k:=1) m_enumerate (C__law_many.up (by decide)) cdv A outer s H E vs hl hr) zpu λms Q X _ h=>zwC ms Q X h
 have C__law_numbers:Cal (PySem.Challenge.rw_weave_k35_weights).prog w K mg base (λ_ _ _ _=>False) 1 "_law_numbers" zc3:=zbX (kp:=[]) (zd8 D__law_numbers) g__law_numbers (FunD.bindsN (ps:=["_law_thing", "_law_many_here"]) D__law_numbers λ_ _ _ _ _ _ us hl=>match us,hl with | [_,_],_=>rfl) zff (λcdv A outer s H E vs hl hr=>zle (k:=0) m_len m_isinstance m_tuple m_bool m_int cdv A outer s H E vs hl hr) zkN λms Q X _ h=>zot ms Q X h
 have C__law_right:Cal (PySem.Challenge.rw_weave_k35_weights).prog w K mg base (λ_ _ _ _=>False) 3 "_law_right" zc5:=zbX (kp:=[]) (zd8 D__law_right) g__law_right (FunD.bindsN (ps:=["_law_stock_here", "_law_rules_here", "_law_told"]) D__law_right λ_ _ _ _ _ _ us hl=>match us,hl with | [_,_,_],_=>rfl) za3 (λcdv A outer s H E vs hl hr=>zoS (k:=2) m_len m_isinstance m_tuple m_sum m_zip m_range (C__law_lost.up (by decide)) (C__law_numbers.up (by decide)) cdv A outer s H E vs hl hr) zkP λms Q X _ h=>zou ms Q X h
 have C__law_pattern:Cal (PySem.Challenge.rw_weave_k35_weights).prog w K mg base (λ_ _ _ _=>False) 1 "_law_pattern" ze2:=zbX (kp:=[]) (zd8 D__law_pattern) g__law_pattern (FunD.bindsN (ps:=["_law_net"]) D__law_pattern λ_ _ _ _ _ _ us hl=>match us,hl with | [_],_=>rfl) zcI (λcdv A outer s H E vs hl hr=>zlf (k:=0) m_len cdv A outer s H E vs hl hr) zkQ λms Q X _ h=>zov ms Q X h
 have C__law_rules:Cal (PySem.Challenge.rw_weave_k35_weights).prog w K mg base (λ_ _ _ _=>False) 5 "_law_rules" zew:=zbX (kp:=[0]) (zd8 D__law_rules) g__law_rules (FunD.bindsN (ps:=["_law_held", "_law_stock_here", "_law_most", "_law_about"]) D__law_rules λ_ _ _ _ _ _ us hl=>match us,hl with | [_,_,_,_],_=>rfl) zd2 (λcdv A outer s H E vs hl hr=>zoT (k:=4) m_range (C__law_take.up (by decide)) (C__law_wild.up (by decide)) (C__law_pattern.up (by decide)) cdv A outer s H E vs hl hr) zm2 λms Q X _ h=>zr7 ms Q X h
 exact zyE (kp:=[]) (sp:=sp_law222222222222222222222222) (zd8 D_law) zoU (λcdv A outer s H E vs hl hr=>s_law (k:=5) m_range m_max m_len m_list (C__law_digits.up (by decide)) (C__law_stock.up (by decide)) (C__law_rules.up (by decide)) (C__law_take.up (by decide)) (C_weighed.up (by decide)) (C__law_right.up (by decide)) cdv A outer s H E vs hl hr) λms Q X _ h=>zeb ms Q X h
end LK35
end VW
open PySem PySem.W PySem.Calls PyProof.Rows
set_option maxHeartbeats 0
theorem PySem.Challenge.cw_weave_k35_weights_holds : PySem.Challenge.rw_weave_k35_weights.Holds := by
 w_on; o_law
 refine HandSHeadRun.head_any (r:=OpenLaw.row PySem.Challenge.rw_weave_k35_weights) (q:=VW.LK35.qv) (H:=VW.LK35.hk) (ob:=VW.LK35.ob) (M:=18080) (loose:=VW.LK35.nms) (d:=HandSHeadRun.topDef (OpenLaw.row PySem.Challenge.rw_weave_k35_weights).prog 27) (kwd:=[]) VW.LK35.ob_eq
  (by kernel_rfl) (λs=>by kernel_rfl) VW.LK35.run (by kernel_rfl) (by kernel_rfl) (by kernel_rfl) (by rfl) (by first | assumption | decide +kernel) (by decide +kernel) ⟨rfl,rfl,rfl,rfl,rfl,by decide +kernel⟩ ?hw ?hc
 case hw=>w_witness2
 case hc =>
  refine VW.walk_ofW (l:=PySem.Challenge.rw_weave_k35_weights) (n:=63) (k:=6) (x := "_law_script") rfl (by decide) (by kernel_rfl) ⟨rfl,by decide,by decide⟩ ?F
  intro w mg fa h Y G hmg0
  obtain ⟨K,KX,c⟩:=Y
  have hmg:mg ("law" : PySem.Str)=some (.ref fa):=by
   have e:(HandSHeadRun.topDef (OpenLaw.row PySem.Challenge.rw_weave_k35_weights).prog 27).name=("law" : PySem.Str):=by kernel_rfl
   rw [← e]
   exact hmg0
  obtain ⟨fd,hb,hF⟩:=VW.LK35.facts (w:=w) KX G hmg c
  refine ⟨K,fd,_,KX,hb,λH a ns hl _ hS=>VW.law_sp (sp:=VW.sp_law222222222222222222222222) (λns hl Q X q=>⟨_,rfl,?_⟩) H a ns hl hS,hF⟩
  rw [VW.LK35.law_true ns hl]
  exact q
